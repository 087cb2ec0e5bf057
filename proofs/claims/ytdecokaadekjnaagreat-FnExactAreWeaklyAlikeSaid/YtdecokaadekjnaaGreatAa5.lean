/- Part 5 of a proof of what the last text states; no condition. -/
import Derived.Test.YtdecokaadekjnaaGreatAa4
set_option maxRecDepth 100000
set_option maxHeartbeats 4000000
namespace Go.Proofs.YtdecokaadekjnaaGreat
open Go Go.RowKit T
theorem CK {w w1:World}{g e:Nat}{cs:List Value}(Z:cs.length=5)(J:g=w.heap.size)(G:w1=w.alloc (.cells #[.int .u8 0,.int .i64 0,.int .i64 0,.pointer none,.bool false] e)):
  (∀j,j< 5->(∃u,w1.cell? ⟨g,0+j,none⟩=some u)/\w1.frozen? ⟨g,0+j,none⟩=false)/\∀w2,w2=World.setCells w1 g 0 cs->Ex w w2/\g< w2.heap.size/\∀j,j< 5->w2.cell? ⟨g,j,none⟩=cs[j]?:=by
 have hc:∀j,j< 5->∃u,w1.cell? ⟨g,0+j,none⟩=some u:=λj hj=>by
  rw [G,J];have:∃u,(#[.int .u8 0,.int .i64 0,.int .i64 0,.pointer none,.bool false]:Array Value)[0+j]?=some u:=by
   rw [Pa];exact⟨_,Array.getElem?_eq_getElem (by simpa using hj)⟩
  obtain⟨u,hu⟩:=this;exact⟨u,aa hu⟩
 refine⟨λj hj=>⟨hc j hj,by rw [G,J];exact aG _ _ _ _⟩,λw2 H=>?_⟩;obtain⟨k,_,_,V⟩:=aJ (b:=g) cs w1 0;rw [<-H]at k V;have W:Ex w w1:=G▸Ex.alloc _ _;have s1:w1.heap.size=w.heap.size+1:=by rw [G,size_alloc]
 have s2:=k.size;refine⟨Ex.below W (Kp.below k W.size λb hb e=>by omega),by omega,λj hj=>?_⟩;have :=V j (λi hi=>hc i (by omega)) (by omega)
 rwa [Pa]at this
theorem fW {A:Type}:∀t:T A,(offs t).length<=t.size:=by
 intro t
 induction t with
 | sum p q G H=>simp only [offs,OG,T.size];omega
 | rep p G=>simp only [offs,O3,T.size];omega
 | _=>simp [offs,T.size]
theorem iB {X Y:Type}{f:X->List Y}{c:Nat}:∀{l:List X},(∀x∈l,(f x).length<=c)->(l.flatMap f).length<=l.length* c
 | [],_=>by simp
 | x::l,h=>by
  have H:=h x (by simp);have h2:=iB (f:=f) (c:=c) (l:=l) λy G=>h y (by simp [G])
  simp only [Qc,OG,OA,Nat.succ_mul];omega
theorem lG.any {D:Nat->Prop}{w:World}{o:Off Nat}{cs:List Value}(h:lG D w o cs):∃(k:UInt8) (a b:Nat) (vr:Value) (s:Bool),cs=cY k a b vr s/\ay vr=true:=by
 cases o with
 | tau p=>obtain⟨a,b,vr,s,G,h2⟩:=h;exact⟨126,a,b,vr,s,G,h2.one⟩
 | snd a b p=>obtain⟨vr,s,G,h2⟩:=h;exact⟨33,a,b,vr,s,G,h2.one⟩
 | rcv a b p s=>obtain⟨vr,G,h2⟩:=h;exact⟨63,a,b,vr,s,G,h2.one⟩
theorem tF {k:UInt8}{a b:Nat}{vr:Value}{s:Bool}(h:ay vr=true):(cY k a b vr s).all ay=true:=by simp only [cY,PU,Ry,Q5,h]
theorem yC {D:Nat->Prop}{B:Nat}{w:World}{v:Value}{os:List (Off Nat)}{xs:List Value}(G:cK B w v os.length xs)(hm:OffsM D w os xs){j:Nat}(hj:j< os.length):∃(g cap:Nat) (cs:List Value),v= .slice (some ⟨g,0,none⟩) os.length cap/\lG D w os[j] cs/\∀i u,cs[i]?=some u->∀off,off=j* 5+i->i< 5->w.cell? ⟨g,off,none⟩=some u:=by
 obtain⟨cs,H,h2⟩:=hm.at hj;rcases G.cell with⟨_,J,_⟩ | ⟨g,cap,rfl,_,hc⟩
 ·omega
 ·refine⟨g,cap,cs,rfl,H,λi u hu off he hi=>?_⟩;have :=hc (j* 5+i) u (by rw [h2 i hi];exact hu);rw [he];rwa [Pa]at this
section
variable {t:P} {u:U} {b b2 n0:Nat} {w:World} {D:Nat->Prop}
def Rel (b:Nat)(w1:World)(G:Nat->Prop)(w2:World)(M2:Nat->Prop):Prop:=Kp w1 w2 (λg=>g=b\/G g)/\∀g,M2 g->G g\/w1.heap.size<=g
theorem Rel.refl (b:Nat)(w:World)(M:Nat->Prop):Rel b w M w M:=⟨Kp.af (Ex.refl w) _,λ _ h=> .inl h⟩
theorem Rel.trans {b:Nat}{w1 w2 G:World}{H M2 J:Nat->Prop}(h:Rel b w1 H w2 M2)(k:Rel b w2 M2 G J):Rel b w1 H G J:=
 ⟨Kp.trans h.1 k.1 λg V e=>e.elim .inl λW=>(h.2 g W).elim .inr λh=>by omega,λg V=>(k.2 g V).elim (h.2 g) λh'=> .inr (PI h.1.size h')⟩
theorem Rel.ex {b:Nat}{w1 w2 G:World}{H M2:Nat->Prop}(h:Rel b w1 H w2 M2)(x:Ex w2 G):Rel b w1 H G M2:=h.trans ⟨Kp.af x _,λ _ h=> .inl h⟩
theorem rB.mono {c G:Nat}{w w':World}{acc:List U}{M:Nat->Prop}(h:rB b b2 n0 c w w' acc M)(hc:c<=G):rB b b2 n0 G w w' acc M:=by
 obtain⟨n,H,h2,J⟩:=h.mc;exact⟨h.km,h.rs,⟨n,H,h2,by omega⟩,h.hb⟩
theorem L9 (hu:u=(num t e0 0).1)(hn0:n0=(num t e0 0).2)(ok:m5 t)(su:SU t u)(hsz:u.size<=60){bl:Nat}(hcl0:w.cell? ⟨b,2,none⟩=some (ptr bl))(hl0:aC D w (td u) (ptr bl))(hD:∀g,D g->g≠b/\g< w.heap.size){i k:Nat}{e d:Nat}{p:U}(hi:i< u.ths.length)(hk:k< u.ths.length)(ho:Off.snd e d p∈offs u.ths[i])
  {w1:World} {M:Nat->Prop} {acc:List U} (h:rB b b2 n0 (60* acc.length) w w1 acc M) (hacc:acc.length<=20000000) {Z:Nat} {vr:Value} {s0:Bool} (c40:∀j,j< 5->w1.cell? ⟨Z,j,none⟩=(cY 33 e d vr s0)[j]?) (hb40:Z< w1.heap.size) (hMb:¬M Z) (hbb:Z≠b) (hvr:aC D w1 (td p) vr)
  {v89:Value} (h89:ah D w1 (tl [u.ths[k]]) [v89]) {J:Sg} (hJ:∀w3 M',rB b b2 n0 (60* (acc++E2 u i e d p k).length) w w3 (acc++E2 u i e d p k) M'->Rel b w1 M w3 M'->J w3):
  Sh 140 #[v89] w1 (aw [.v] fun(v90:Value) (ξ:World)=>∃(a92:Option Addr) (χ cap94:Nat),v90=Value.slice a92 χ cap94/\∃(I95:Int->Sg) (ο:Int->World->Nat),I95 (0) ξ/\∀(H:Int) (β:World),I95 H β->((decide (H< (χ:Int)))=true->∃(b99 κ len101 cap102:Nat),v90=Value.slice (some ⟨b99,κ,none⟩) len101 cap102/\0<=(H:Int)/\(H:Int)< len101/\∃c103:UInt8,∃n104:Int,∃n105:Int,∃v106:Value,∃q107:Bool,(World.cell? β ⟨b99,(κ+Int.toNat H* 5),none⟩=some (Value.int IntKind.u8 (UInt8.toNat c103))/\World.cell? β ⟨b99,((κ+Int.toNat H* 5)+1),none⟩=some (Value.int IntKind.i64 n104)/\World.cell? β ⟨b99,(((κ+Int.toNat H* 5)+1)+1),none⟩=some (Value.int IntKind.i64 n105)/\World.cell? β ⟨b99,((((κ+Int.toNat H* 5)+1)+1)+1),none⟩=some v106/\World.cell? β ⟨b99,(((((κ+Int.toNat H* 5)+1)+1)+1)+1),none⟩=some (Value.bool q107)/\True)/\
   ∀(V:Nat) (ς:World),V=Array.size (World.heap β)->ς=World.alloc β (Obj.cells #[(Value.int IntKind.u8 0),(Value.int IntKind.i64 0),(Value.int IntKind.i64 0),(Value.pointer none),(Value.bool false)] 160)->(List.length [(Value.int IntKind.u8 (UInt8.toNat c103)),(Value.int IntKind.i64 n104),(Value.int IntKind.i64 n105),v106,(Value.bool q107)]=5/\List.all [(Value.int IntKind.u8 (UInt8.toNat c103)),(Value.int IntKind.i64 n104),(Value.int IntKind.i64 n105),v106,(Value.bool q107)] ay=true/\∀j,j< 5->(∃u,World.cell? ς ⟨V,0+j,none⟩=some u)/\World.frozen? ς ⟨V,0+j,none⟩=false)/\
   ∀G:World,G=World.setCells ς V 0 [(Value.int IntKind.u8 (UInt8.toNat c103)),(Value.int IntKind.i64 n104),(Value.int IntKind.i64 n105),v106,(Value.bool q107)]->((decide ((k:Int)=(i:Int)))=false->∃c111:UInt8,World.cell? G ⟨V,0,none⟩=some (Value.int IntKind.u8 (UInt8.toNat c111))/\((!decide (c111=63))=false->∃n112:Int,World.cell? G ⟨V,1,none⟩=some (Value.int IntKind.i64 n112)/\∃n113:Int,World.cell? G ⟨Z,1,none⟩=some (Value.int IntKind.i64 n113)/\((!decide (n112=n113))=true->a7 (H+1)/\I95 ((H+1)) G/\ο ((H+1)) G< ο H β)/\((!decide (n112=n113))=false->∀(α:Nat) (γ:World),α=Array.size (World.heap G)->γ=World.alloc G (Obj.cells #[(Value.int IntKind.i64 (i:Int)),(Value.int IntKind.i64 (k:Int))] 3)->∃J116:Value->Sg,(∃q117:Bool,World.cell? γ ⟨V,4,none⟩=some (Value.bool q117)/\(q117=true->∃(a118:Option Addr) (len119 ε:Nat),(Value.slice (some ⟨α,0,none⟩) 2 2)=Value.slice a118 len119 ε/\0<=(0:Int)/\(0:Int)<=1/\1<=(ε:Int)/\J116 ((Value.slice (if ε=Int.toNat 0 then a118 else Option.map (·.add (Int.toNat 0* 1)) a118) (Int.toNat 1 - Int.toNat 0) (ε - Int.toNat 0))) γ)/\(q117=false->J116 ((Value.slice (some ⟨α,0,none⟩) 2 2)) γ))/\
   ∀(υ:Value) (η:World),J116 υ η->∃δ:Sg,∀w124:World,w124=World.drew η->δ w124/\∃(b125 o126:Nat),ptr b=Value.pointer (some ⟨b125,o126,none⟩)/\∃v127:Value,(∀w',δ w'->World.cell? w' ⟨b125,(o126+2),none⟩=some v127)/\∃(b128 o129:Nat),v127=Value.pointer (some ⟨b128,o129,none⟩)/\∃v130:Value,(∀w',δ w'->World.cell? w' ⟨b128,(o129+0),none⟩=some v130)/\∃v131:Value,(∀w',δ w'->World.cell? w' ⟨Z,3,none⟩=some v131)/\∃c132:UInt8,∃n133:Int,∃n134:Int,∃v135:Value,∃q136:Bool,(∀w',δ w'->World.cell? w' ⟨V,0,none⟩=some (Value.int IntKind.u8 (UInt8.toNat c132))/\World.cell? w' ⟨V,1,none⟩=some (Value.int IntKind.i64 n133)/\World.cell? w' ⟨V,2,none⟩=some (Value.int IntKind.i64 n134)/\World.cell? w' ⟨V,3,none⟩=some v135/\World.cell? w' ⟨V,4,none⟩=some (Value.bool q136)/\True)/\∃n137:Int,(∀w',δ w'->World.cell? w' ⟨Z,2,none⟩=some (Value.int IntKind.i64 n137))/\
   Sh 177 #[ptr b,(Value.agg #[(Value.int IntKind.u8 (UInt8.toNat c132)),(Value.int IntKind.i64 n133),(Value.int IntKind.i64 n134),v135,(Value.bool q136)]),(Value.int IntKind.i64 n137)] w124 (aw [.v] fun(v138:Value) (w139:World)=>δ w139/\ay v131=true/\ay v138=true/\∀(b140:Nat) (w141:World),b140=Array.size (World.heap w139)->w141=World.alloc w139 (Obj.cells #[v131,v138] 146)->δ w141/\Sh 176 #[ptr b,υ,v130,(Value.slice (some ⟨b140,0,none⟩) 2 2)] w141 (aw [.s,.b] fun(s142:aB) (q143:Bool) (w144:World)=>δ w144/\Sh 99 #[(Value.pointer (some ⟨b2,0,none⟩)),(Value.string (ai s142)),(Value.bool q143)] w144 (aw [] fun(w145:World)=>δ w145/\a7 (H+1)/\I95 ((H+1)) w145/\ο ((H+1)) w145< ο H β)))))/\((!decide (c111=63))=true->a7 (H+1)/\I95 ((H+1)) G/\ο ((H+1)) G< ο H β))/\((decide ((k:Int)=(i:Int)))=true->a7 (H+1)/\I95 ((H+1)) G/\ο ((H+1)) G< ο H β))/\((decide (H< (χ:Int)))=false->J β)):=by
 have hthk:=su.th _ (OK hk);have hks:=eN u _ (OK hk);have sw0:=h.km.size;have hDM:∀g,D g->¬(g=b\/M g):=λg hg e=>e.elim (hD g hg).1 λhM=>by have :=(hD g hg).2;have :=(h.rs.mr g hM).1;omega
 have egd:u.ths.getD k .nil=u.ths[k]:=cS hk;generalize hos:offs u.ths[k]=os at*;have hosl:os.length<=60:=by have :=fW u.ths[k];rw [hos]at this;omega
 have hE3:∀r,((os.take r).flatMap (E3 u i k e d p)).length<=60:=λr=>by
  have h1:=iB (f:=E3 u i k e d p) (c:=1) (l:=os.take r) λx _=>by
   cases x with
   | rcv e' x q s=>unfold E3;simp only;split<;>simp
   | _=>simp [E3]
  rw [Pm]at h1;omega
 refine sW hthk.1 hthk.2.1 hthk.2.2 (su.smp _ (OK hk)) (by omega) (λg hg=>by have :=(hD g hg).2;omega) h89 λv90 ξ xs x91 ho91 hm91=>?_
 rw [hos]at ho91 hm91;have hv90:∃a cap,v90= .slice a os.length cap:=by
  rcases ho91.cell with⟨h1,h2,_⟩ | ⟨g,cap,h1,_⟩
  ·exact⟨none,0,by rw [h1,h2]⟩
  ·exact⟨_,cap,h1⟩
 obtain⟨av,cav,hv90⟩:=hv90;have h91:=h.ex x91;have s91:=x91.size;refine⟨av,_,cav,hv90,λx w'=>∃(r:Nat) (M':Nat->Prop),x=r/\r<=os.length/\rB b b2 n0 (60* (acc++if i=k then []else(os.take r).flatMap (E3 u i k e d p)).length) w w' (acc++if i=k then []else(os.take r).flatMap (E3 u i k e d p)) M'/\Rel b ξ M w' M',λx _=>(os.length - x).toNat,⟨0,M,rfl,Ps _,by simpa using h91,Rel.refl b ξ M⟩,λx β hI=>?_⟩;obtain⟨r,M',rfl,hr,ψ,W⟩:=hI;refine⟨λhlt=>?_,λhge=>?_⟩;rotate_left
 ·have hrl:=oE hge (by omega);rw [hrl,O6]at ψ;have e2:E2 u i e d p k=if i=k then []else os.flatMap (E3 u i k e d p):=by unfold E2;rw [egd,hos]
  rw [<-e2]at ψ;exact hJ β M' ψ (((Rel.refl b w1 M).ex x91).trans W)
 have hrl:=oL hlt;have hMv:∀g,v90.ownBlock=some g->¬(g=b\/M g):=λg hg e=>by
  have h1:=ho91.block g hg;have :=h.hb;exact e.elim (λe=>by omega) λhM=>by have :=(h.rs.mr g hM).2;omega
 have hM91:∀g,g< ξ.heap.size->¬(g=b\/M g)->¬(g=b\/M' g):=λg h1 h2 e=>e.elim (λe=>h2 (.inl e)) λhM=>(W.2 g hM).elim (λhM=>h2 (.inr hM)) λh=>by omega
 have ho98:=ho91.kp W.1 hMv;have hm98:=OffsM.kp W.1 hDM hm91;obtain⟨g,cap,cs,hvg,ω,θ⟩:=yC ho98 hm98 hrl;obtain⟨kk,a1,b1,vq,s1,rfl,hone⟩:=ω.any;have s98:=W.1.size;refine⟨g,0,_,cap,hvg,by omega,by omega,kk,a1,b1,vq,s1,⟨θ 0 _ rfl _ (by omega) (by omega),θ 1 _ rfl _ (by omega) (by omega),θ 2 _ rfl _ (by omega) (by omega),θ 3 _ rfl _ (by omega) (by omega),θ 4 _ rfl _ (by omega) (by omega),trivial⟩,λV ς hb108 hw109=>?_⟩;obtain⟨box1,box2⟩:=CK (cs:=cY kk a1 b1 vq s1) rfl hb108 hw109;refine⟨⟨rfl,tF hone,box1⟩,λG hw110=>?_⟩;obtain⟨μ,l110,c110⟩:=box2 G hw110;have s110:=μ.size;have htk:(os.take (r+1)).flatMap (E3 u i k e d p)=(os.take r).flatMap (E3 u i k e d p)++E3 u i k e d p os[r]:=by rw [OE hrl,PX];simp
 have next:∀w',(E3 u i k e d p os[r]=[]\/i=k)->w'=G->a7 ((r:Int)+1)/\(∃(r2:Nat) (M2:Nat->Prop),(r:Int)+1=r2/\r2<=os.length/\rB b b2 n0 (60* (acc++if i=k then []else(os.take r2).flatMap (E3 u i k e d p)).length) w w' (acc++if i=k then []else(os.take r2).flatMap (E3 u i k e d p)) M2/\Rel b ξ M w' M2)/\((os.length:Int) - ((r:Int)+1)).toNat< ((os.length:Int) - r).toNat:=by
  intro w' he hw';subst hw';refine⟨by omega,⟨r+1,M',by omega,by omega,?_,W.ex μ⟩,by omega⟩;have:(if i=k then []else(os.take (r+1)).flatMap (E3 u i k e d p))=(if i=k then []else(os.take r).flatMap (E3 u i k e d p)):=by
   split
   ·rfl
   ·rename_i hik;rw [htk,he.resolve_right hik,Ph]
  rw [this];exact ψ.ex μ
 have r110:=ψ.ex μ;by_cases hik:k=i
 ·exact⟨λh=>absurd (O4 h) (by omega),λ _=>next G (.inr hik.symm) rfl⟩
 refine⟨λ _=>⟨kk,c110 0 (by omega),?_,?_⟩,λh=>absurd (O1 h) (by omega)⟩;rotate_left
 ·intro ν;refine next G (.inl ?_) rfl;have hne:kk≠63:=by simpa using ν
  generalize hor:os[r]=o at*;cases o with
  | tau p=>rfl
  | snd a b p=>rfl
  | rcv a x q s=>obtain⟨vr',e1,_⟩:=ω;simp only [cY,Px,P5]at e1;exact absurd (O8.1 (by have :=e1.1.2;have e3:(63:UInt8).toNat=63:=rfl;omega)) hne
 ·intro ν;have ν:kk=63:=by
   cases hd:decide (kk=63)with
   | true=>exact O1 hd
   | false=>rw [hd]at ν;cases ν
  subst ν;obtain⟨x,q,e1,e2⟩:∃x q,os[r]= .rcv a1 x q s1/\x=b1:=by
   generalize hor:os[r]=o at*;cases o with
   | tau p=>obtain⟨_,_,_,_,e1,_⟩:=ω;simp only [cY,Px,P5]at e1;exact absurd e1.1.2 (by decide)
   | snd a b p=>obtain⟨_,_,e1,_⟩:=ω;simp only [cY,Px,P5]at e1;exact absurd e1.1.2 (by decide)
   | rcv a x q s=>
    obtain⟨vr',e1,_⟩:=ω;simp only [cY,Px,P5,Value.bool.injEq,Rj,QN]at e1;exact⟨x,q,by rw [show a1=a by omega,e1.2.2.2],by omega⟩
  subst e2;have hrm:Off.rcv a1 x q s1∈offs u.ths[k]:=by rw [hos,<-e1];exact OK hrl
  rw [e1]at ω;obtain⟨vq',e3,hvq⟩:=ω;have:vq'=vq:=by simp only [cY,Px,Rj,QN]at e3;exact e3.symm
  subst this;have hb40':Z< ξ.heap.size:=by omega
  have hM40:¬(Z=b\/M Z):=λe=>e.elim hbb hMb
  have c40':∀j,j< 5->G.cell? ⟨Z,j,none⟩=(cY 33 e d vr s0)[j]?:=λj hj=>by
   rw [μ.cell (show Z< _ by omega),OB (w:=ξ) (W.1.block Z hb40' hM40),x91.cell (show Z< _ from hb40)];exact c40 j hj
  refine⟨a1,c110 1 (by omega),e,c40' 1 (by omega),λhne=>?_,λheq α γ hb114 ι=>?_⟩
  ·refine next G (.inl ?_) rfl;rw [e1];have hne:(a1:Int)≠e:=by simpa using hne
   exact OW (by omega)
  ·have heq:a1=e:=by
    have:(a1:Int)=e:=by
     cases hd:decide ((a1:Int)=e)with
     | true=>exact O1 hd
     | false=>rw [hd]at heq;cases heq
    omega
   subst heq;have φ:Ex G γ:=ι▸Ex.alloc _ _;have s115:γ.heap.size=G.heap.size+1:=by rw [ι,size_alloc]
   have xx:=Ex.trans μ φ;have ζ:∀g,β.heap.size<=g->¬(g=b\/M' g):=λg hg e=>e.elim (λe=>by have :=h.hb;have :=ψ.km.size;omega) λhM=>by have :=(ψ.rs.mr g hM).2;omega
   refine⟨λgone w'=>w'=γ/\eI (λg=>g< γ.heap.size/\¬(g=b\/M' g)) γ gone ((if s1 then [i]else [i,k]).map iv),⟨s1,?_,λhs=>⟨_,_,2,rfl,by omega,by omega,by omega,rfl,?_⟩,λhs=>⟨rfl,?_⟩⟩,λgone η hJ2=>?_⟩
   ·rw [φ.cell (show V< _ from l110)];exact c110 4 (by omega)
   ·rw [hs];have:(if(2:Nat)=Int.toNat 0 then(some ⟨α,0,none⟩:Option Addr)else Option.map (λx:Addr=>x.add (Int.toNat 0* 1)) (some ⟨α,0,none⟩))=some ⟨α,0,none⟩:=by
     rw [OW (by decide),Qw,add_plain];rfl
    rw [this];refine .inr ⟨α,0,_,rfl,⟨by omega,ζ α (by omega)⟩,by omega,λi' y hy=>?_⟩;cases i' with
    | zero=>simp only [Qr,Pe,QG,PY,Qa]at hy;subst hy;rw [ι,hb114];exact aa rfl
    | succ i=>simp at hy
   ·rw [hs];refine .inr ⟨α,0,_,rfl,⟨by omega,ζ α (by omega)⟩,by omega,λi' y hy=>?_⟩
    match i',hy with
    | 0,hy=>simp only [Qs,Rg,Pe,QG,PY,Qa]at hy;subst hy;rw [ι,hb114];exact aa rfl
    | 1,hy=>simp only [Qs,Rg,Pe,QG,List.getElem?_cons_succ,PY,Qa]at hy;subst hy;rw [ι,hb114];exact aa rfl
    | i+2,hy=>simp at hy
   obtain⟨rfl,hgone⟩:=hJ2;have r122:=r110.ex φ;rw [OW (λe=>hik e.symm)]at r122;have hE3r:=hE3 r;have hcl:η.cell? ⟨b,2,none⟩=some (ptr bl):=(r122.km.ce 2 (by omega)).trans hcl0;have hl:aC D η (td u) (ptr bl):=aC.kp hl0 r122.km.kp λg hg=>(hD g hg).1
   have cc40:∀j,j< 5->η.cell? ⟨Z,j,none⟩=(cY 33 a1 d vr s0)[j]?:=λj hj=>by rw [φ.cell (show Z< _ by omega)];exact c40' j hj
   have hvr':aC D η (td p) vr:=aC.ex (aC.kp (aC.ex hvr x91) W.1 hDM) xx;have hM40':=hM91 Z hb40' hM40;refine Jz hu hn0 ok su hsz r122 hcl hl hD hi hk (λe=>hik e.symm) ho hrm (cc40 3 (by omega)) (cc40 2 (by omega)) (by omega) (λhM=>hM40' (.inr hM)) hbb hvr' (λj hj=>by rw [φ.cell (show V< _ from l110)];exact c110 j hj) (by omega) (λhM=>ζ V (by omega) (.inr hM)) (λe=>ζ V (by omega) (.inl e)) (aC.ex hvq xx) hgone (by rw [OG];omega) (by
    have hnn:=bW t e0 0;have hts:=ok.size;rw [OG];omega) λw3 M3 r3 k3 hM3=>⟨by omega,⟨r+1,M3,by omega,by omega,?_,(W.ex xx).trans ⟨k3,hM3⟩⟩,tN (by omega)⟩
   rw [OW (λe=>hik e.symm),htk,e1];have e4:E3 u i k a1 d p (.rcv a1 x q s1)=[Gd u i k p (q.map (Ff (NN u) q x d)) s1]:=Pd rfl;rw [e4,<-Po];refine r3.mono ?_;simp only [OG,OA,OS];omega
end
theorem IG {t:P}(ok:m5 t){w:World}{b:Nat}{D:Nat->Prop}(st:J7 w D b (num t e0 0).2 t.text (td (num t e0 0).1))(hD:∀g,D g->g≠b/\g< w.heap.size){R:Value->Bool->Sg}
  (hR1:qp (num t e0 0).1=none->∀w',Kr b w w'->R (.slice none 0 0) false w') (hR2:∀l,qp (num t e0 0).1=some l->∀v w',Kr b w w'->Strs w' v l->(∀g,v.ownBlock=some g->w.heap.size<=g)->R v true w'):Sh 136 #[ptr b] w (aw [.v,.b] R):=by
 have su:=ok.su;have hszt:=ok.size;have hsh:=(mw su.ae).2.2;generalize hu:(num t e0 0).1=u at*;have hsz:u.size<=60:=by omega
 refine iS (ptr b) w R ?_;intro b2 w3 hb2 ν;have x3:Ex w w3:=ν▸Ex.alloc _ _;have s3:w3.heap.size=w.heap.size+1:=by rw [ν,size_alloc]
 have hb:=st.mc.lt;obtain⟨vl,hcl0,hl0⟩:=st.l;obtain⟨bl,vo,vt,ts,rfl,k2,k3,k4,k5,k6,k7,k8,k9⟩:=EJ su hl0;obtain⟨at_,capt,hvt⟩:=k7.slice;have r3:rB b b2 (num t e0 0).2 (60* ([]:List U).length) w w3 [] (λg=>g=b2):=by
  refine⟨Km.ex x3 hb,⟨by omega,rfl,λg e=>by omega,λj=>by rw [ν,hb2];exact aG _ _ _ _,by rw [ν,hb2];exact aa rfl,.slice none 0 0,by rw [ν,hb2];exact aa rfl,Own.nil _ _,λg Z=>by cases Z⟩,⟨_,st.mc.ex x3,OL _,by simp⟩,hb⟩
 have cb2:∀{w':World},Km b w w'->w'.cell? ⟨b,2,none⟩=some (ptr bl):=λk=>(k.ce 2 (by omega)).trans hcl0
 have cbl:∀{w':World},Km b w w'->∀{j:Nat} {x:Value},w.cell? ⟨bl,j,none⟩=some x->w'.cell? ⟨bl,j,none⟩=some x:=λk j x hx=>by rw [OB (w:=w) (k.kp.block bl k3 (hD bl k2).1)];exact hx
 have hlw:∀{w':World},Km b w w'->aC D w' (td u) (ptr bl):=λk=>aC.kp hl0 k.kp λg Z=>(hD g Z).1
 have ξ:∀{w':World},Km b w w'->∀i (hi:i< ts.length),∃bt ot V,vt= .slice (some ⟨bt,ot,none⟩) ts.length V/\w'.cell? ⟨bt,ot+i,none⟩=some ts[i]:=λk i hi=>by
  rcases k7 with⟨_,h0⟩ | ⟨bt,ot,V,e,hbD,hb',G⟩
  ·rw [h0]at hi;simp at hi
  ·exact⟨bt,ot,V,e,by rw [OB (w:=w) (k.kp.block bt hb' (hD bt hbD).1)];exact G i _ (OC hi)⟩
 have tth:∀{w':World},Km b w w'->∀i (h:i< u.ths.length) (h':i< ts.length),ah D w' (tl [u.ths[i]]) [ts[i]]:=λk i h h'=>ah.kp k.kp (λg Z=>(hD g Z).1) (k9 i h h')
 have hthl:u.ths.length<=60:=by
  have:∀u:U,u.ths.length<=u.size:=by
   intro u
   induction u with
   | par p q _ ih=>simp only [T.ths,OA,T.size];omega
   | res x p ih=>simp only [T.ths,T.size];omega
   | _=>simp [T.ths,T.size]
  have :=this u;omega
 have hol:∀i (h:i< u.ths.length),(offs u.ths[i]).length<=60:=λi h=>by
  have h1:=fW u.ths[i];have h2:=eN u _ (OK h);omega
 have hE2:∀i c d p k,k< u.ths.length->(E2 u i c d p k).length<=60:=λi c d p k hk=>by
  unfold E2;split
  ·simp
  ·rw [cS hk];have h1:=iB (f:=E3 u i k c d p) (c:=1) (l:=offs u.ths[k]) λx _=>by
    cases x with
    | rcv e' x q s=>unfold E3;simp only;split<;>simp
    | _=>simp [E3]
   have :=hol k hk;omega
 have hE2s:∀i c d p k,k<=u.ths.length->((List.range k).flatMap (E2 u i c d p)).length<=3600:=λi c d p k hk=>by
  have h1:=iB (f:=E2 u i c d p) (c:=60) (l:=List.range k) λx hx=>hE2 i c d p x (by have :=P7.1 hx;omega)
  rw [QM]at h1;omega
 have hE1:∀i o,(E1 u i o).length<=3600:=λi o=>by
  cases o with
  | tau p=>simp [E1]
  | rcv=>simp [E1]
  | snd c d p=>exact hE2s i c d p _ (OL _)
 have hE1s:∀i j (h:i< u.ths.length),(((offs u.ths[i]).take j).flatMap (E1 u i)).length<=216000:=λi j h=>by
  have h1:=iB (f:=E1 u i) (c:=3600) (l:=(offs u.ths[i]).take j) λx _=>hE1 i x
  rw [Pm]at h1;have :=hol i h;omega
 have hE0:∀i,i< u.ths.length->(E0 u i).length<=216000:=λi h=>by
  have :=hE1s i (offs u.ths[i]).length h;rw [O6]at this;unfold E0;rw [cS h];exact this
 have hE0s:∀i,i<=u.ths.length->((List.range i).flatMap (E0 u)).length<=12960000:=λi hi=>by
  have h1:=iB (f:=E0 u) (c:=216000) (l:=List.range i) λx hx=>hE0 x (by have :=P7.1 hx;omega)
  rw [QM]at h1;omega
 refine⟨b,0,rfl,ptr bl,cb2 r3.km,bl,0,rfl,vt,cbl r3.km k5,at_,_,capt,hvt,λx w'=>∃(i:Nat) (M:Nat->Prop),x=i/\i<=ts.length/\rB b b2 (num t e0 0).2 (60* ((List.range i).flatMap (E0 u)).length) w w' ((List.range i).flatMap (E0 u)) M,λx _=>(ts.length - x).toNat,⟨0,_,rfl,Ps _,by simpa using r3⟩,λx w16 hI=>?_⟩;obtain⟨i,M,rfl,hi,H⟩:=hI;refine⟨λhlt=>?_,λhge=>?_⟩;rotate_left
 ·have hil:i=u.ths.length:=by simp only [OP]at hge;omega
  rw [hil]at H;have hlen:=hE0s u.ths.length (OL _);have e:(List.range u.ths.length).flatMap (E0 u)=gZ u:=rfl;rw [e]at H hlen;have hol2:(outs (gZ u)).length=(gZ u).length:=by unfold outs;simp
  refine LF H.rs (by omega) (λδ=>hR1 ?_ w16 H.km.kp) λδ v' w' k s hv=>hR2 _ ?_ v' w' ?_ s.strs λg Z=>(H.rs.mr g (hv g Z)).1
  ·unfold qp;rw [OW];intro h;rw [h]at δ;cases δ
  ·unfold qp;rw [Pd];cases h:jB (gZ u)with
   | true=>rfl
   | false=>rw [h]at δ;cases δ
  ·exact Kp.trans H.km.kp k λg Z hM=>by have :=(H.rs.mr g hM).1;omega
 have hil:i< ts.length:=by simp only [OQ]at hlt;omega
 have α:i< u.ths.length:=by omega
 obtain⟨bt,ot,V,hvt',hct⟩:=ξ H.km i hil;have ο:=su.th _ (OK α);have hsi:=eN u _ (OK α);have s16:=H.km.size;refine⟨bt,ot,_,V,hvt',by omega,by omega,ts[i],by rw [OO,Pg];exact hct,sW ο.1 ο.2.1 ο.2.2 (su.smp _ (OK α)) (by omega) (λg Z=>by have :=(hD g Z).2;omega) (tth H.km i α hil) λv22 w23 xs x23 ς hm23=>?_⟩;have ek:(List.range (i+1)).flatMap (E0 u)=(List.range i).flatMap (E0 u)++E0 u i:=by rw [RC,PX];simp
 have eE0:E0 u i=(offs u.ths[i]).flatMap (E1 u i):=by unfold E0;rw [cS α]
 have holi:=hol i α;have hE1i:=λj=>hE1s i j α
 have hofm:∀o∈offs u.ths[i],o∈offs u.ths[i]:=λ _ h=>h
 generalize hos:offs u.ths[i]=os at*;have υ:∃a cap,v22= .slice a os.length cap:=by
  rcases ς.cell with⟨h1,h2,_⟩ | ⟨g,cap,h1,_⟩
  ·exact⟨none,0,by rw [h1,h2]⟩
  ·exact⟨_,cap,h1⟩
 obtain⟨av,cav,υ⟩:=υ;have r23:=H.ex x23;have s23:=x23.size;have hacci:=hE0s i (by omega);generalize hA:(List.range i).flatMap (E0 u)=A at*;refine⟨av,_,cav,υ,λx w'=>∃(j:Nat) (M':Nat->Prop),x=j/\j<=os.length/\rB b b2 (num t e0 0).2 (60* (A++(os.take j).flatMap (E1 u i)).length) w w' (A++(os.take j).flatMap (E1 u i)) M'/\Rel b w23 M w' M',λx _=>(os.length - x).toNat,⟨0,M,rfl,Ps _,by simpa using r23,Rel.refl b w23 M⟩,λx w30 hI=>?_⟩;obtain⟨j,M',rfl,hj,κ,β⟩:=hI;refine⟨λhlt2=>?_,λhge2=>?_⟩;rotate_left
 ·have φ:j=os.length:=by simp only [OP]at hge2;omega
  rw [φ,O6,<-eE0,<-ek]at κ;exact⟨by omega,⟨i+1,M',by omega,by omega,κ⟩,tN (by omega)⟩
 have φ:j< os.length:=by simp only [OQ]at hlt2;omega
 have hDM:∀g,D g->¬(g=b\/M g):=λg Z e=>e.elim (hD g Z).1 λhM=>by have :=(hD g Z).2;have :=(H.rs.mr g hM).1;omega
 have hMv:∀g,v22.ownBlock=some g->¬(g=b\/M g):=λg Z e=>by
  have h1:=ς.block g Z;exact e.elim (λe=>by omega) λhM=>by have :=(H.rs.mr g hM).2;omega
 have ho30:=ς.kp β.1 hMv;have hm30:=OffsM.kp β.1 hDM hm23;obtain⟨g,cap,cs,hvg,W,G⟩:=yC ho30 hm30 φ;obtain⟨kk,a1,b1,vr,s1,rfl,hone⟩:=W.any;have s30:=β.1.size;refine⟨g,0,_,cap,hvg,by omega,by omega,kk,a1,b1,vr,s1,⟨G 0 _ rfl _ (by omega) (by omega),G 1 _ rfl _ (by omega) (by omega),G 2 _ rfl _ (by omega) (by omega),G 3 _ rfl _ (by omega) (by omega),G 4 _ rfl _ (by omega) (by omega),trivial⟩,λb40 w41 hb40 hw41=>?_⟩;obtain⟨box1,box2⟩:=CK (cs:=cY kk a1 b1 vr s1) rfl hb40 hw41;refine⟨⟨rfl,tF hone,box1⟩,λθ hw42=>?_⟩;obtain⟨χ,l42,ε⟩:=box2 θ hw42;have s42:=χ.size;have ι:=κ.ex χ;have htk:(os.take (j+1)).flatMap (E1 u i)=(os.take j).flatMap (E1 u i)++E1 u i os[j]:=by rw [OE φ,PX];simp
 have hE1j:=hE1i j;have nb40:∀g,w30.heap.size<=g->¬(g=b\/M' g):=λg Z e=>e.elim (λe=>by have :=κ.km.size;omega) λhM=>by have :=(κ.rs.mr g hM).2;omega
 have ζ:=nb40 b40 (by omega);have γ:os[j]∈os:=OK φ;have rel42:=β.ex χ;have next:∀w' M2,rB b b2 (num t e0 0).2 (60* (A++(os.take j).flatMap (E1 u i)++E1 u i os[j]).length) w w' (A++(os.take j).flatMap (E1 u i)++E1 u i os[j]) M2->Rel b θ M' w' M2->a7 ((j:Int)+1)/\(∃(j2:Nat) (M3:Nat->Prop),(j:Int)+1=j2/\j2<=os.length/\rB b b2 (num t e0 0).2 (60* (A++(os.take j2).flatMap (E1 u i)).length) w w' (A++(os.take j2).flatMap (E1 u i)) M3/\Rel b w23 M w' M3)/\((os.length:Int) - ((j:Int)+1)).toNat< ((os.length:Int) - j).toNat:=by
  intro w' M2 r rel;refine⟨by omega,⟨j+1,M2,by omega,by omega,?_,rel42.trans rel⟩,by omega⟩;rw [htk,<-Po];exact r
 have hvr:∀p,(os[j]= .tau p\/(∃c d,os[j]= .snd c d p))->aC D θ (td p) vr:=λp hp=>by
  rcases hp with hp | ⟨c,d,hp⟩
  ·rw [hp]at W;obtain⟨_,_,vr',_,e1,h1⟩:=W;simp only [cY,Px]at e1;rw [e1.2.2.2.1];exact aC.ex h1 χ
  ·rw [hp]at W;obtain⟨vr',_,e1,h1⟩:=W;simp only [cY,Px]at e1;rw [e1.2.2.2.1];exact aC.ex h1 χ
 cases η:os[j]with
 | tau p=>
  have hk:kk=126:=by
   rw [η]at W;obtain⟨_,_,_,_,e1,_⟩:=W;simp only [cY,Px,P5]at e1;exact O8.1 (by have e2:=e1.1.2;have e3:(126:UInt8).toNat=126:=rfl;omega)
  subst hk;rw [η]at next γ;refine⟨λw'=>∃M2,rB b b2 (num t e0 0).2 (60* (A++(os.take j).flatMap (E1 u i)++E1 u i (.tau p)).length) w w' (A++(os.take j).flatMap (E1 u i)++E1 u i (.tau p)) M2/\Rel b θ M' w' M2,⟨126,ε 0 (by omega),cZ (by decide) ?_⟩,λμ hJ=>?_⟩
  ·refine L8 ok su hsz ι (cb2 ι.km) (hlw ι.km) hD α (by rw [hos];exact γ) (ε 3 (by omega)) l42 (λhM=>ζ (.inr hM)) (hvr p (.inl η)) (by rw [OG];omega) λw3 M3 r3 k3 hM3=>⟨M3,?_,⟨Kp.mono (λ _ h=> .inr h) k3,hM3⟩⟩
   exact r3.mono (by simp only [OG];omega)
  ·obtain⟨M2,r70,ψ⟩:=hJ;refine⟨126,?_,λ _=>next μ M2 r70 ψ,λh=>absurd h (by decide)⟩;rw [OB (w:=θ) (ψ.1.block b40 l42 ζ)];exact ε 0 (by omega)
 | rcv a x q s=>
  have hk:kk=63:=by
   rw [η]at W;obtain⟨_,e1,_⟩:=W;simp only [cY,Px,P5]at e1;exact O8.1 (by have e2:=e1.1.2;have e3:(63:UInt8).toNat=63:=rfl;omega)
  subst hk;rw [η]at next;refine⟨λw'=>w'=θ,⟨63,ε 0 (by omega),aW (by decide) rfl⟩,λμ hJ=>?_⟩;subst hJ;refine⟨63,ε 0 (by omega),λ _=>next μ M' ?_ (Rel.refl _ _ _),λh=>absurd h (by decide)⟩;have e:E1 u i (.rcv a x q s)=[]:=rfl;rw [e,Ph];exact ι
 | snd c d p=>
  have hk:kk=33/\a1=c/\b1=d:=by
   rw [η]at W;obtain⟨_,_,e1,_⟩:=W;simp only [cY,Px,P5]at e1;have e3:(33:UInt8).toNat=33:=rfl;exact⟨O8.1 (by have e2:=e1.1.2;omega),by have :=e1.2.1.2;omega,by have :=e1.2.2.1.2;omega⟩
  obtain⟨rfl,rfl,rfl⟩:=hk;rw [η]at next γ;refine⟨λw'=>w'=θ,⟨33,ε 0 (by omega),aW (by decide) rfl⟩,λμ hJ=>?_⟩;subst hJ;refine⟨33,ε 0 (by omega),λh=>absurd h (by decide),λ _=>?_⟩;refine⟨b,0,rfl,ptr bl,cb2 ι.km,bl,0,rfl,vt,cbl ι.km k5,at_,_,capt,hvt,λx w'=>∃(k:Nat) (M2:Nat->Prop),x=k/\k<=ts.length/\rB b b2 (num t e0 0).2 (60* (A++(os.take j).flatMap (E1 u i)++(List.range k).flatMap (E2 u i a1 b1 p)).length) w w' (A++(os.take j).flatMap (E1 u i)++(List.range k).flatMap (E2 u i a1 b1 p)) M2/\Rel b μ M' w' M2,λx _=>(ts.length - x).toNat,⟨0,M',rfl,Ps _,by simpa using ι,Rel.refl _ _ _⟩,λx w84 hI=>?_⟩;obtain⟨k,M2,rfl,hk,ω,J⟩:=hI;refine⟨λhlt3=>?_,λhge3=>?_⟩;rotate_left
  ·have hkl:k=u.ths.length:=by simp only [OP]at hge3;omega
   rw [hkl]at ω;exact next w84 M2 ω J
  have hkl:k< ts.length:=by simp only [OQ]at hlt3;omega
  have hku:k< u.ths.length:=by omega
  obtain⟨bt2,ot2,capt2,hvt2,hct2⟩:=ξ ω.km k hkl;have hE2k:=hE2s i a1 b1 p k (by omega);have s84:=J.1.size;have hDM':∀g,D g->¬(g=b\/M' g):=λg Z e=>e.elim (hD g Z).1 λhM=>by have :=(hD g Z).2;have :=(κ.rs.mr g hM).1;omega
  refine⟨bt2,ot2,_,capt2,hvt2,by omega,by omega,ts[k],by rw [OO,Pg];exact hct2,?_⟩;refine L9 (D:=D) hu.symm rfl ok su hsz hcl0 hl0 hD α hku (by rw [hos];exact γ) ω (by simp only [OG];omega) (λjj hjj=>by rw [OB (w:=μ) (J.1.block b40 l42 ζ)];exact ε jj hjj) (by omega) (λhM=>(J.2 b40 hM).elim (λh=>ζ (.inr h)) λh=>by omega) (λe=>ζ (.inl e)) (aC.kp (hvr p (.inr ⟨_,_,η⟩)) J.1 hDM') (tth ω.km k hku hkl) λw3 M3 r3 rel3=>⟨by omega,⟨k+1,M3,by omega,by omega,?_,J.trans rel3⟩,tN (by omega)⟩
  have e5:(List.range (k+1)).flatMap (E2 u i a1 b1 p)=(List.range k).flatMap (E2 u i a1 b1 p)++E2 u i a1 b1 p k:=by rw [RC,PX];simp
  rw [e5,<-Po];exact r3
end Go.Proofs.YtdecokaadekjnaaGreat
namespace Go.Proofs.YtdecokaadekjnaaGreat
open Go Go.RowKit T Classical
theorem FU {s:Tx}{w:World}{R:Value->Bool->Sg}(J:bX s=none->∀w',Ex w w'->R (.pointer none) false w')
  (γ:∀t:P,m5 t->bX s=some t.text->∀b w',Ex w w'->w.heap.size<=b->J7 w' (λg=>w.heap.size<=g/\g≠b/\g< w'.heap.size) b (num t e0 0).2 t.text (td (num t e0 0).1)->R (ptr b) true w'):
  Sh 135 #[.string (ai s)] w (aw [.v,.b] R):=by
 refine rL s w R ?_;dsimp only [go_sem];dsimp only [go_sem,UInt8.reduceOfNat,UInt32.reduceOfNat,Nat.reduceAdd];refine G5 λv q w4 x4 h1 h2=>⟨λV=>?_,λV=>?_⟩
 ·have V:q=true:=by simpa using V
  obtain⟨G,t,Z,e,α⟩:=h1 V;have ζ:t.size<=60:=((oM Z).1 (e▸G)).2;refine Ib α.bound (λg G=>G.2) λw6 x6=>⟨λW=>?_,λW=>?_⟩
  ·refine J (iI ?_) w6 (Ex.trans x4 x6)
   rintro⟨t',h4,h5,_,h6⟩
   have :=fS h4.wf Z.wf (h5.trans e);subst this;rw [h6]at W;cases W
  ·have W:t.smp=true:=by simpa using W
   have β:=aM.kp (Kp.af x6 λ _=>False) (λ _ _ h=>h) α.bound;have he:=qg Z (e▸G) W;rw [<-e]at he;refine xX β (λg G=>by have :=G.2;have :=x6.size;omega) Z (by omega) λw9 x9=>?_
   have H:=Ex.trans x4 (Ex.trans x6 x9);cases hn:kN (num t e0 0).1 with
   | none=>exact⟨(λs h=>by cases h),λ _=>⟨λ _=>J (he.trans hn) w9 H,(λh=>by cases h)⟩⟩
   | some n=>
    refine⟨λs' h=>?_,(λh=>by cases h)⟩;cases h;refine⟨(λh=>by cases h),λ _=>?_⟩;obtain⟨t',ok,rfl⟩:=B8 (lz Z) ((tv (my Z)).symm.trans W) hn;have ε:=ok.size;have δ:=ok.len;refine Dn ok.al (by omega) (by omega) λb w' x hb st=>γ t' ok (he.trans hn) b w' (Ex.trans H x) (by have :=H.size;omega) ?_
    obtain⟨v,h1,h2⟩:=st.l;exact⟨st.mc,st.tx,v,h1,h2.sub λg _ G=>⟨by have :=H.size;have :=G.1;omega,G.2⟩⟩
 ·have V:q=false:=by simpa using V
  exact J (iI fun⟨t,_,_,G,_⟩=>h2 V G) w4 x4
theorem DG:jP 0 λ _=>false:=λc _=>by simp
theorem FJ {x:UInt32}{tk:Tk}(hx:jP x tk){w:World}{R:aB->Sg}(hR:R (nz.filter tk) w):
  Sh 82 #[.int .u32 x.toNat] w (aw [.s] R):=by
 refine r9 x w R ?_;dsimp only [go_sem];dsimp only [go_sem,UInt8.reduceOfNat,UInt32.reduceOfNat,Nat.reduceAdd];have hl:nz.length=26:=by simp [nz]
 refine⟨λout c w'=>w'=w/\97<=c.toNat/\c.toNat<=123/\out=nz.filter λd=>tk d&&decide (d< c),λ _ c _=>123 - c.toNat,⟨rfl,by decide,by decide,?_⟩,λout c w' hI=>?_⟩
 ·refine(List.filter_eq_nil_iff.2 λd hd h=>?_).symm;have :=bj (pF.1 hd);simp only [OD,OQ,Pv]at h;have h2:d.toNat< 97:=h.2;omega
 ·obtain⟨rfl,G,h4,rfl⟩:=hI;refine⟨λhc=>Dx ?_,λhc=>?_⟩
  ·simp only [OQ,O0]at hc;have H:c.toNat<=122:=hc;have J:lt c=true:=pk ⟨G,H⟩;have :=hx c J;have e1:(c+1).toNat=c.toNat+1:=by rw [Rz];show(c.toNat+1) % 256=_;omega
   have hle:(nz.filter λd=>tk d&&decide (d< c)).length<=26:=hl▸QD _ _;have hd:∀d:UInt8,d< c+1↔d< c\/d=c:=λd=>by
    rw [Pv,Pv,e1,<-O8];omega
   refine⟨λhe=>?_,λhe=>?_⟩
   ·have W:tk c=true:=by
     rw [QB]at he;rw [he]at this;simpa using this.symm
    have e2:UInt8.ofNat (Int.toNat (c.toNat:Int))=c:=by rw [OO];exact UInt8.ofNat_toNat
    refine⟨⟨by omega,by omega⟩,by simp only [OA,OS];omega,⟨rfl,by omega,by omega,?_⟩,by show 123 - (c+1).toNat< 123 - c.toNat;omega⟩;rw [e2];refine tj ?_ (j4.filter _) λd=>?_
    ·refine RN.2 ⟨j4.filter _,List.pairwise_singleton _ _,λa ha b hb=>?_⟩;cases OJ.1 hb;have :=(QF.1 ha).2;simp only [OD,OQ]at this;exact this.2
    ·simp only [OM,QF,OJ,OD,OQ,hd];constructor
     ·rintro(⟨Z,h2,G⟩ | rfl)
      ·exact⟨Z,h2,.inl G⟩
      ·exact⟨pF.2 J,W,.inr rfl⟩
     ·rintro⟨Z,h2,G | G⟩
      ·exact .inl ⟨Z,h2,G⟩
      ·exact .inr G
   ·have W:tk c=false:=by
     have he:decide (x &&& ng c=0)=true:=by
      cases h:decide (x &&& ng c=0)with
      | true=>rfl
      | false=>rw [h]at he;cases he
     rw [he]at this;simpa using this.symm
    refine⟨⟨rfl,by omega,by omega,?_⟩,by show 123 - (c+1).toNat< 123 - c.toNat;omega⟩;refine QY λd _=>?_
    by_cases V:d=c
    ·rw [V,W];rfl
    ·have:(d< c+1)↔d< c:=by rw [hd];exact⟨λh=>h.resolve_right V,.inl⟩
     rw [QT.2 this]
  ·simp only [OP,O0]at hc;have H:122< c.toNat:=by have:¬c.toNat<=122:=hc;omega
   rw [show(nz.filter λd=>tk d&&decide (d< c))=nz.filter tk from QY λd hd=>by
    have :=bj (pF.1 hd);rw [PG (Pv.2 (by omega)),Q5]]
   exact hR
theorem KL {x y:UInt32}(h:x.toNat< 67108864)(k:y.toNat< 67108864):(x ||| y).toNat< 67108864:=by
 rw [UInt32.toNat_or];exact Nat.or_lt_two_pow (n:=26) h k
theorem zY {c:UInt8}(h:lt c=true):(ng c).toNat=2^(c.toNat - 97):=by
 have G:=bj h;have e:(c - 97).toNat=c.toNat - 97:=by
  have :=c.toNat_lt;rw [UInt8.toNat_sub];show(256 - 97+c.toNat) % 256=_;omega
 unfold ng tG;rw [e,QP (by omega),UInt32.toNat_ofNat'];have:2^(c.toNat - 97)< 2^26:=Nat.pow_lt_pow_right (by omega) (by omega);show 1* 2^(c.toNat - 97) % 2^32=_;rw [Nat.one_mul];exact RT (by omega)
theorem I2 {c:UInt8}(h:lt c=true):(ng c).toNat< 67108864:=by
 have G:=bj h;rw [zY h,show(67108864:Nat)=2^26 from rfl];exact Nat.pow_lt_pow_right (by omega) (by omega)
theorem Ki {s:Tx}(hs:∀c∈s,lt c=true)(hl:s.length<=1099511627776){w:World}{R:UInt32->Sg}(hR:∀x,jP x (λc=>decide (c∈s))->x.toNat< 67108864->R x w):
  Sh 91 #[.string (ai s)] w (aw [.w] R):=by
 refine vJ s w R ?_;dsimp only [go_sem];dsimp only [go_sem,UInt8.reduceOfNat,UInt32.reduceOfNat,Nat.reduceAdd];refine⟨λx i w'=>w'=w/\∃j:Nat,i=j/\j<=s.length/\x.toNat< 67108864/\jP x λc=>decide (c∈s.take j),λ _ i _=>(s.length - i).toNat,⟨rfl,0,rfl,Ps _,by decide,?_⟩,λx i w' hI=>?_⟩
 ·simpa using DG
 obtain⟨rfl,j,rfl,hj,H,J⟩:=hI;refine⟨λV=>?_,λW=>?_⟩
 ·have G:=oL V;refine⟨⟨by omega,by omega⟩,Dx ⟨by omega,⟨rfl,j+1,by omega,by omega,KL H (I2 (hs _ (lj G))),?_⟩,tN (by omega)⟩⟩;rw [OO];have h:=J.add (hs _ (lj G));have e:(cy (λc=>decide (c∈s.take j)) (bt s j))=λc=>decide (c∈s.take (j+1)):=by
   funext c
   unfold cy;rw [OE G,jS];have Z:bt s j=s[j]:=by unfold bt;rw [P3,OC G];rfl
   rw [Z];simp only [OM,OJ,Bool.decide_or]
  rw [<-e];exact h
 ·have:j=s.length:=by simp only [OP]at W;omega
  rw [this,O6]at J;exact hR x J H
def Ga (k:UInt8)(u:U)(l:List (Off Nat))(c:UInt8):Prop:=∃o∈l,∃z,o.over k=some z/\z∉u.frL/\c=ρ0 z
def Gt (k:UInt8)(u:U)(l:List U)(c:UInt8):Prop:=Ga k u (l.flatMap offs) c
theorem Dh {k:UInt8}{u:U}{l m:List (Off Nat)}{c:UInt8}:Ga k u (l++m) c↔Ga k u l c\/Ga k u m c:=by
 unfold Ga;constructor
 ·rintro⟨o,G,h⟩
  exact(OM.1 G).imp (λh'=>⟨o,h',h⟩) λh'=>⟨o,h',h⟩
 ·rintro(⟨o,G,h⟩ | ⟨o,G,h⟩)
  ·exact⟨o,Pf _ G,h⟩
  ·exact⟨o,O9 _ G,h⟩
theorem jP.cg {x:UInt32}{p q:UInt8->Prop}[DecidablePred p][DecidablePred q](h:jP x λc=>decide (p c))(e:∀c,p c↔q c):jP x λc=>decide (q c):=by
 have:(λc=>decide (p c))=λc=>decide (q c):=funext λc=>QT.2 (e c)
 rwa [<-this]
theorem zZ {q:UInt8->Prop}[DecidablePred q](e:∀c,¬q c):jP 0 λc=>decide (q c):=by
 have:(λc=>decide (q c))=λ _=>false:=funext λc=>PT (e c)
 rw [this];exact DG
theorem uT {k G:UInt8}{a b a' J:Nat}{v v':Value}{s V:Bool}(h:cY k a b v s=cY G a' J v' V):k=G/\a=a':=by
 unfold cY at h
 injection h with H h2
 injection h2 with h2 _
 injection H with _ H
 injection h2 with _ h2
 exact⟨O8.1 (by omega),by omega⟩
theorem zr:∀u:U,u.ths.length<=u.size:=by
 intro u
 induction u with
 | par p q _ G=>simp only [T.ths,OA,T.size];omega
 | res x p G=>simp only [T.ths,T.size];omega
 | _=>simp [T.ths,T.size]
theorem Bj {A:Type}{k:UInt8}{a c:A}{p:T A}{z:A}:(Off.snd a c p).over k=some z↔33=k/\z=a:=by
 show(if k=33 then some a else none)=some z↔_;constructor
 ·intro h;by_cases hc:k=33
  ·exact⟨hc.symm,(pz h).symm⟩
  ·rw [OW hc]at h;cases h
 ·rintro⟨G,h2⟩;rw [Pd G.symm,h2]
theorem Ac {A:Type}{k:UInt8}{a c:A}{p:T A}{s:Bool}{z:A}:(Off.rcv a c p s).over k=some z↔63=k/\z=a:=by
 show(if k=63 then some a else none)=some z↔_;constructor
 ·intro h;by_cases hc:k=63
  ·exact⟨hc.symm,(pz h).symm⟩
  ·rw [OW hc]at h;cases h
 ·rintro⟨G,h2⟩;rw [Pd G.symm,h2]
theorem Gh:∀u:U,u.frL.length<=u.size:=by
 intro u
 induction u with
 | res x p G=>simp only [T.frL,OA,T.size];omega
 | _=>simp [T.frL,T.size]
theorem Jr {z:Nat}(h:z< 26):ng (ρ0 z)=tG 1 z:=by
 unfold ng;rw [ig (Ea h),fA h];unfold σ0;rw [Nat.add_sub_cancel]
theorem jP.more {x:UInt32}{p q:UInt8->Prop}[DecidablePred p][DecidablePred q](h:jP x λc=>decide (p c)){z:Nat}(G:z< 26)(e:∀c,q c↔p c\/c=ρ0 z):jP (x ||| tG 1 z) λc=>decide (q c):=by
 have H:=h.add (Ea G);rw [Jr G]at H;have:(cy (λc=>decide (p c)) (ρ0 z))=λc=>decide (q c):=by
  funext c
  unfold cy;rw [jS,QT.2 (e c),Bool.decide_or]
 rwa [<-this]
theorem Kv {t:P}(ok:m5 t){w:World}{b n:Nat}{D:Nat->Prop}(st:J7 w D b n t.text (td (num t e0 0).1))(hD:∀g,D g->g< w.heap.size){k:UInt8}(hk:k≠126){R:aB->Sg}(hR:∀w',Ex w w'->R (FC k t) w'):
  Sh 93 #[ptr b,.int .u8 k.toNat] w (aw [.s] R):=by
 have su:=ok.su;have hszt:=ok.size;have hsh:=(mw su.ae).2.2;generalize hu:(num t e0 0).1=u at*;have hsz:u.size<=60:=by omega
 have hthl:=zr u;refine nC (ptr b) k w R ?_;dsimp only [go_sem];dsimp only [go_sem,UInt8.reduceOfNat,UInt32.reduceOfNat,Nat.reduceAdd];have hb:=st.mc.lt;obtain⟨vl,ο,hl0⟩:=st.l;obtain⟨bl,vo,vt,ts,rfl,k2,k3,k4,k5,k6,k7,k8,k9⟩:=EJ su hl0;obtain⟨at_,capt,hvt⟩:=k7.slice;refine⟨b,0,rfl,ptr bl,ο,bl,0,rfl,vt,k5,at_,_,capt,hvt,λout x w'=>∃i:Nat,x=i/\i<=ts.length/\Ex w w'/\jP out λc=>decide (Gt k u (u.ths.take i) c),λ _ x _=>(ts.length - x).toNat,⟨0,rfl,Ps _,Ex.refl w,?_⟩,λout x w16 hI=>?_⟩
 ·exact zZ λc=>by simp [Gt,Ga]
 obtain⟨i,rfl,hi,ζ,η⟩:=hI;refine⟨λhlt=>?_,λhge=>?_⟩;rotate_left
 ·have ε:i=u.ths.length:=by simp only [OP]at hge;omega
  rw [ε,O6]at η;refine FJ η ?_;have:(nz.filter λc=>decide (Gt k u u.ths c))=FC k t:=by
   unfold FC;refine QY λc _=>QT.2 ?_
   rw [KY su];constructor
   ·rintro⟨o,ho,z,V,h2,h3⟩
    obtain⟨q,hq,ho⟩:=Pz.1 ho;obtain⟨sub,_⟩:=aY (su.smp _ hq) _ ho;exact⟨z,h2,((su.free z ⟨q,hq,sub.fr z (sC V)⟩).resolve_left h2).1,h3,q,hq,o,ho,V⟩
   ·rintro⟨z,V,h2,h3,q,hq,o,ho,h4⟩
    exact⟨o,Pz.2 ⟨q,hq,ho⟩,z,h4,V,h3⟩
  rw [this];exact hR w16 ζ
 have ε:i< ts.length:=by simp only [OQ]at hlt;omega
 have φ:i< u.ths.length:=by omega
 have s16:=ζ.size;have α:=OK φ;have θ:=su.th _ α;have hsi:=eN u _ α;have χ:∃bt ot H,vt= .slice (some ⟨bt,ot,none⟩) ts.length H/\w16.cell? ⟨bt,ot+i,none⟩=some ts[i]:=by
  rcases k7 with⟨_,h0⟩ | ⟨bt,ot,H,e,hbD,hb',G⟩
  ·rw [h0]at ε;simp at ε
  ·exact⟨bt,ot,H,e,by rw [ζ.cell (a:=⟨bt,ot+i,none⟩) hb'];exact G i _ (OC ε)⟩
 obtain⟨bt,ot,H,hvt',χ⟩:=χ;refine⟨bt,ot,_,H,hvt',by omega,by omega,ts[i],by rw [OO,Pg];exact χ,sW θ.1 θ.2.1 θ.2.2 (su.smp _ α) (by omega) (λg hg=>by have :=hD g hg;omega) ((k9 i φ ε).ex ζ) λv22 w23 xs x23 ς hm23=>?_⟩;have hofm:∀o∈offs u.ths[i],∀z,o.over k=some z->z∉u.frL->z< 26:=λo ho z V h2=>by
  obtain⟨sub,_⟩:=aY (su.smp _ α) _ ho;exact((su.free z ⟨_,α,sub.fr z (sC V)⟩).resolve_left h2).1
 have eT:(u.ths.take (i+1)).flatMap offs=(u.ths.take i).flatMap offs++offs u.ths[i]:=by rw [OE φ,PX];simp
 have hol:(offs u.ths[i]).length<=60:=by have V:=fW u.ths[i];omega
 have υ:=Ex.trans ζ x23;generalize hos:offs u.ths[i]=os at*;have ι:∃a cap,v22= .slice a os.length cap:=by
  rcases ς.cell with⟨V,h2,_⟩ | ⟨g,cap,V,_⟩
  ·exact⟨none,0,by rw [V,h2]⟩
  ·exact⟨_,cap,V⟩
 obtain⟨av,cav,ι⟩:=ι;refine⟨av,_,cav,ι,λout x w'=>∃j:Nat,x=j/\j<=os.length/\Ex w23 w'/\jP out λc=>decide (Gt k u (u.ths.take i) c\/Ga k u (os.take j) c),λ _ x _=>(os.length - x).toNat,⟨0,rfl,Ps _,Ex.refl _,η.cg λc=>by simp [Ga]⟩,λout2 x w30 hI=>?_⟩;obtain⟨j,rfl,hj,ξ,W⟩:=hI;refine⟨λhlt2=>?_,λhge2=>?_⟩;rotate_left
 ·have κ:j=os.length:=by simp only [OP]at hge2;omega
  rw [κ,O6]at W;refine⟨by omega,⟨i+1,by omega,by omega,Ex.trans υ ξ,W.cg λc=>?_⟩,tN (by omega)⟩;show Ga k u _ c\/Ga k u os c↔Ga k u _ c;rw [eT,Dh]
 have κ:j< os.length:=by simp only [OQ]at hlt2;omega
 have ho30:=ς.ex ξ;have hm30:=OffsM.ex hm23 ξ;obtain⟨g,cap,cs,hvg,γ,G⟩:=yC ho30 hm30 κ;obtain⟨kk,a1,b1,vr,s1,rfl,hone⟩:=γ.any;refine⟨g,0,_,cap,hvg,by omega,by omega,kk,a1,b1,vr,s1,⟨G 0 _ rfl _ (by omega) (by omega),G 1 _ rfl _ (by omega) (by omega),G 2 _ rfl _ (by omega) (by omega),G 3 _ rfl _ (by omega) (by omega),G 4 _ rfl _ (by omega) (by omega),trivial⟩,λb40 w41 hb40 hw41=>?_⟩;obtain⟨box1,box2⟩:=CK (cs:=cY kk a1 b1 vr s1) rfl hb40 hw41;refine⟨⟨rfl,tF hone,box1⟩,λw42 hw42=>?_⟩;obtain⟨x42,l42,ψ⟩:=box2 w42 hw42;have Z:=Ex.trans ξ x42;have μ:=Ex.trans υ Z;have ω:os[j]∈os:=OK κ;have etk:os.take (j+1)=os.take j++[os[j]]:=OE κ;have δ:=@tN os.length j (by omega);have J:∀z,os[j].over k=some z↔kk=k/\z=a1:=by
  intro z;cases ho:os[j]with
  | tau p=>
   rw [ho]at γ;obtain⟨_,_,_,_,V,_⟩:=γ;have this:=(uT V).1;exact⟨(λh=>by cases h),λh=>absurd (h.1.symm.trans this) hk⟩
  | snd a c p=>
   rw [ho]at γ;obtain⟨_,_,V,_⟩:=γ;obtain⟨e1,e2⟩:=uT V;subst e1 e2;exact Bj
  | rcv a c p s=>
   rw [ho]at γ;obtain⟨_,V,_⟩:=γ;obtain⟨e1,e2⟩:=uT V;subst e1 e2;exact Ac
 have ν:(∀z,os[j].over k=some z->z∈u.frL)->jP out2 λc=>decide (Gt k u (u.ths.take i) c\/Ga k u (os.take (j+1)) c):=λh=>W.cg λc=>by
  rw [etk,Dh];have:¬Ga k u [os[j]] c:=by
   rintro⟨o,ho,z,V,h2,_⟩
   cases OJ.1 ho;exact h2 (h z V)
  simp [this]
 refine⟨kk,ψ 0 (by omega),λβ=>?_,λβ=>?_⟩;rotate_left
 ·have β:kk≠k:=by simpa using β
  exact⟨by omega,⟨j+1,by omega,by omega,Z,ν λz h=>absurd ((J z).1 h).1 β⟩,δ⟩
 have β:kk=k:=by simpa using β
 refine⟨a1,ψ 1 (by omega),?_⟩;refine ni (ptr b) a1 w42 _ ?_;dsimp only [go_sem];dsimp only [go_sem,UInt8.reduceOfNat,UInt32.reduceOfNat,Nat.reduceAdd];refine⟨b,0,rfl,ptr bl,?_,bl,0,rfl,vo,?_,Ed (k6.ex μ) ?_ ⟨λhn=>?_,λhn=>?_⟩⟩
 ·rw [μ.cell (a:=⟨b,0+2,none⟩) hb];exact ο
 ·rw [μ.cell (a:=⟨bl,0+0,none⟩) k3];exact k4
 ·have :=Gh u;omega
 ·have hn:a1∉u.frL:=by simpa using hn
  have h26:=hofm _ ω a1 ((J a1).2 ⟨β,rfl⟩) hn;refine⟨a1,ψ 1 (by omega),by omega,by omega,⟨j+1,by omega,by omega,Z,?_⟩,δ⟩;rw [OO];refine W.more h26 λc=>?_
  rw [etk,Dh];have:Ga k u [os[j]] c↔c=ρ0 a1:=by
   constructor
   ·rintro⟨o,ho,z,V,h2,h3⟩
    cases OJ.1 ho;rw [h3,((J z).1 V).2]
   ·intro h;exact⟨_,OJ.2 rfl,a1,(J a1).2 ⟨β,rfl⟩,hn,h⟩
  rw [this];exact RA.symm
 ·have hn:a1∈u.frL:=by simpa using hn
  exact⟨by omega,⟨j+1,by omega,by omega,Z,ν λz h=>((J z).1 h).2▸hn⟩,δ⟩
theorem GZ {f:Tx}{ps:List P}{v:Value}{w:World}{u:U}(hs:Strs w v (ps.map T.text))(hl:dE (ps.map T.text)<=1000000000)(d:py 0 (resL f (parL ps)) σ0 u){R:aB->Bool->Sg}
  (h:∀w',Ex w w'->(∀s,kN u=some s->R s true w')/\(kN u=none->R [] false w')):Sh 151 #[.string (ai f),v] w (aw [.s,.b] R):=by
 refine tE f v w R ?_;dsimp only [go_sem];dsimp only [go_sem,UInt8.reduceOfNat,UInt32.reduceOfNat,Nat.reduceAdd];obtain⟨a,cap,hv⟩:=hs.slice;have J:=d.den.len;have G:=qh (parL ps) f;rw [G,fR]at J;have α:ps≠[]->joinS 38 (ps.map T.text)=(parL ps).text:=λH=>(qk H).symm
 have β:ps=[]->(parL ps).text=[48]:=λe=>by rw [e];rfl
 refine⟨a,_,cap,hv,λhc=>?_,λhc=>?_⟩
 ·have H:ps≠[]:=by
   intro e;simp [e]at hc
  refine uX hs (by simpa using H) (by omega) ?_;rw [α H];revert G J;generalize (parL ps).text=body;intro J G;refine⟨by omega,λs i w'=>w'=w/\∃m:Nat,i=(m:Int) - 1/\m<=f.length/\s=wrap (f.drop m) body,λ _ i _=>(i+1).toNat,⟨rfl,f.length,rfl,OL _,by rw [QL];rfl⟩,λs i w' hI=>?_⟩;obtain⟨rfl,m,rfl,hm,rfl⟩:=hI;refine⟨λhc=>?_,λhc=>?_⟩
  ·obtain⟨m,rfl⟩:∃k,m=k+1:=⟨m - 1,by simp at hc;omega⟩
   have V:m< f.length:=by omega
   have e:(((m+1:Nat):Int) - 1)=(m:Int):=by omega
   have W:=qB V body;have Z:=fR (f.drop (m+1)) body;rw [Ql]at Z;rw [e,yA V];refine⟨by omega,⟨by omega,by omega,by omega⟩,by simp,by simp,by simp only [OG,OA,OS];omega,by omega,⟨rfl,m,rfl,by omega,?_⟩,by show((m:Int) - 1+1).toNat< ((m:Int)+1).toNat;omega⟩;rw [W];rfl
  ·have:m=0:=by simp at hc;omega
   subst this;rw [Qu,<-G];exact C4 d h
 ·have H:ps=[]:=by
   cases ps with
   | nil=>rfl
   | cons=>simp at hc
  rw [<-β H];revert G J;generalize (parL ps).text=body;intro J G;refine⟨by omega,λs i w'=>w'=w/\∃m:Nat,i=(m:Int) - 1/\m<=f.length/\s=wrap (f.drop m) body,λ _ i _=>(i+1).toNat,⟨rfl,f.length,rfl,OL _,by rw [QL];rfl⟩,λs i w' hI=>?_⟩;obtain⟨rfl,m,rfl,hm,rfl⟩:=hI;refine⟨λhc=>?_,λhc=>?_⟩
  ·obtain⟨m,rfl⟩:∃k,m=k+1:=⟨m - 1,by simp at hc;omega⟩
   have V:m< f.length:=by omega
   have e:(((m+1:Nat):Int) - 1)=(m:Int):=by omega
   have W:=qB V body;have Z:=fR (f.drop (m+1)) body;rw [Ql]at Z;rw [e,yA V];refine⟨by omega,⟨by omega,by omega,by omega⟩,by simp,by simp,by simp only [OG,OA,OS];omega,by omega,⟨rfl,m,rfl,by omega,?_⟩,by show((m:Int) - 1+1).toNat< ((m:Int)+1).toNat;omega⟩;rw [W];rfl
  ·have:m=0:=by simp at hc;omega
   subst this;rw [Qu,<-G];exact C4 d h
def cR (e B:Nat)(w:World)(v:Value)(n:Nat)(xs:List Value):Prop:=w.ownsRow B e 5 v n xs
section
variable {e B:Nat} {w w':World} {v:Value} {n:Nat} {xs:List Value}
theorem cR.nil (e B:Nat)(w:World):cR e B w (.slice none 0 0) 0 []:=World.ownsRow_nil _ _ _ _
theorem cR.block (h:cR e B w v n xs):∀b,v.ownBlock=some b->B<=b/\b< w.heap.size:=Rr h
theorem cR.mono {G:Nat}(h:cR e B w v n xs)(hb:G<=B):cR e G w v n xs:=R5 h hb
theorem cR.kp {S:Nat->Prop}(h:cR e B w v n xs)(k:Kp w w' S)(H:∀g,v.ownBlock=some g->¬S g):cR e B w' v n xs:=by
 refine⟨h.1,?_⟩;rcases h.2 with J | ⟨g,cap,cur,rfl,hb,G,rest⟩
 ·exact .inl J
 ·exact .inr ⟨g,cap,cur,rfl,hb,by rw [k.block g (Pk.1 G).1 (H g rfl)];exact G,rest⟩
theorem cR.ex (h:cR e B w v n xs)(x:Ex w w'):cR e B w' v n xs:=h.kp (Kp.af x λ _=>False) λ _ _ h=>h
theorem cR.cell (h:cR e B w v n xs):(v= .slice none 0 0/\n=0/\xs=[])\/∃g cap,v= .slice (some ⟨g,0,none⟩) n cap/\g< w.heap.size/\∀j u,xs[j]?=some u->w.cell? ⟨g,0+j,none⟩=some u:=by
 have G:=h.1;rcases h.2 with⟨V,H⟩ | ⟨g,cap,cur,rfl,hb,J,W,h2,Z,h4⟩
 ·left;refine⟨V,H,O' (by rw [G,H])⟩
 ·refine .inr ⟨g,cap,rfl,(Pk.1 J).1,λj u hu=>?_⟩;have hj:j< xs.length:=(Pw.1 hu).1;unfold World.cell?;simp only [J,Pa];rw [<-h4,Qh (by rw [<-G];exact hj),Qe]at hu;exact hu
theorem cR.src (h:cR e B w v n xs)(ha:xs.all ay=true):dY w v n 5 xs:=by
 refine⟨h.1,ha,?_⟩;rcases h.cell with⟨rfl,rfl,_⟩ | ⟨g,cap,rfl,_,hc⟩
 ·exact .inl ⟨rfl,rfl⟩
 ·exact .inr ⟨g,0,cap,rfl,hc⟩
theorem cR.one {b:Nat}{cs:List Value}(hc:cs.length=5)(hB:B<=w.heap.size)(hb:b=w.heap.size)(h:w'=w.alloc (.cells cs.toArray e)):cR e B w' (.slice (some ⟨b,0,none⟩) 1 1) 1 cs:=by
 subst hb h;refine⟨by rw [hc],.inr ⟨_,1,cs.toArray,rfl,hB,?_,by simp,by unfold maxLen;omega,by simp [hc],Rw (by simp [hc])⟩⟩;unfold World.alloc;simp
theorem cR.push {x:Value}{m by_:Nat}{H:List Value}(h:cR e B w v n xs)(hB:B<=w.heap.size)(V:dY w x m 5 H)(J:by_<=48)(hl:n+m<=1099511627776){K:Value->Sg}
  (W:∀v' w',cR e B w' v' (n+m) (xs++H)->w.grownBy w' v.ownBlock->(∀b,v'.ownBlock=some b->v.ownBlock=some b\/w.heap.size<=b)->K v' w'):
  ∃(base n' m':Nat) (G news:List Value),World.ownsRow w base e 5 v n' G/\base<=Array.size (World.heap w)/\dY w x m' 5 news/\(n'+m'<=maxLen/\(n'+m')* by_<=140737488355328)/\
   ∀(v':Value) (w':World),World.ownsRow w' base e 5 v' (n'+m') (G++news)->World.grownBy w w' (Value.ownBlock v)->(∀b:Nat,Value.ownBlock v'=some b->Value.ownBlock v=some b\/Array.size (World.heap w)<=b)->K v' w':=
 ⟨B,n,m,xs,H,h,hB,V,⟨by unfold maxLen;omega,by have :=RO (OL (n+m)) J;omega⟩,λv' w' Z hg hw=>W v' w' Z hg hw⟩
theorem cR.set {g cap j:Nat}{x:Value}(h:cR e B w (.slice (some ⟨g,0,none⟩) n cap) n xs)(hw:w'=w.setCell ⟨g,j,none⟩ x)(hj:j< xs.length):cR e B w' (.slice (some ⟨g,0,none⟩) n cap) n (xs.set j x):=by
 subst hw;rcases h.2 with⟨H,_⟩ | ⟨g',G,cur,J,hb,V,W,h2,Z,h4⟩
 ·cases H
 ·cases J;have hl:=h.1;have e:(w.setCell ⟨g,j,none⟩ x).heap[g]?=some (.cells (cur.setIfInBounds j x) e (0,0)):=by
   rw [Sort.setCell_eq];simp [Sort.mapBlock,QC,V,Sort.onCells]
  refine⟨by rw [Qk];exact hl,.inr ⟨g,cap,_,by simp,hb,e,by simpa using W,h2,by simpa using Z,?_⟩⟩;rw [Array.toList_setIfInBounds,List.take_set,h4]
theorem cR.fr (h:cR e B w v n xs){g:Nat}(H:v.ownBlock=some g)(j:Nat):w.frozen? ⟨g,j,none⟩=false:=by
 rcases h.2 with⟨rfl,V⟩ | ⟨J,cap,cur,rfl,hb,G,_⟩
 ·cases H
 ·have e:J=g:=Pu H;subst e;unfold World.frozen?;simp only [G];simp
end
def gg (k a b:UInt8)(s:Tx)(q:Bool):List Value:=[.int .u8 k.toNat,.int .u8 a.toNat,.int .u8 b.toNat,.string (ai s),.bool q]
def vR:Off UInt8->List Value->Prop
 | .tau p,cs=>∃a b s,cs=gg 126 a b p.text s
 | .snd a b p,cs=>∃s,cs=gg 33 a b p.text s
 | .rcv a x q s,cs=>cs=gg 63 a x q.text s
def fZ:List (Off UInt8)->List Value->Prop
 | [],xs=>xs=[]
 | o::os,xs=>∃cs G,xs=cs++G/\vR o cs/\fZ os G
theorem vR.any {o:Off UInt8}{cs:List Value}(h:vR o cs):∃(k a b:UInt8) (s:Tx) (q:Bool),cs=gg k a b s q:=by
 cases o with
 | tau p=>obtain⟨a,b,s,h⟩:=h;exact⟨_,_,_,_,_,h⟩
 | snd a b p=>obtain⟨s,h⟩:=h;exact⟨_,_,_,_,_,h⟩
 | rcv a b p s=>exact⟨_,_,_,_,_,h⟩
theorem fZ.app:∀{os G:List (Off UInt8)} {xs H:List Value},fZ os xs->fZ G H->fZ (os++G) (xs++H)
 | [],_,xs,H,h,k=>by cases h;exact k
 | o::os,_,xs,H,⟨cs,zs,J,h2,V⟩,k=>⟨cs,zs++H,by rw [J,Po],h2,V.app k⟩
theorem fZ.len:∀{os:List (Off UInt8)} {xs:List Value},fZ os xs->xs.length=os.length* 5/\xs.all ay=true
 | [],xs,h=>by cases h;exact⟨rfl,rfl⟩
 | o::os,xs,⟨cs,zs,G,h2,H⟩=>by
  obtain⟨h4,h5⟩:=H.len;obtain⟨k,a,b,s,q,e⟩:=h2.any;subst G e;exact⟨by simp [gg,h4];omega,by rw [Rf,h5];rfl⟩
theorem fZ.at:∀{os:List (Off UInt8)} {xs:List Value},fZ os xs->∀{i:Nat} (hi:i< os.length),∃cs,vR os[i] cs/\∀j,j< 5->xs[i* 5+j]?=cs[j]?
 | o::os,xs,⟨cs,zs,G,h2,J⟩,0,_=>⟨cs,h2,λj hj=>by
   obtain⟨k,a,b,s,q,e⟩:=h2.any;have V:cs.length=5:=by rw [e];rfl
   rw [G,List.getElem?_append_left (by omega)];congr 1;omega⟩
 | o::os,xs,⟨cs,zs,G,h2,J⟩,i+1,hi=>by
   obtain⟨H,W,Z⟩:=J.at (i:=i) (by simpa using hi);refine⟨H,W,λj hj=>?_⟩;obtain⟨k,a,b,s,q,e⟩:=h2.any;have V:cs.length=5:=by rw [e];rfl
   rw [G,List.getElem?_append_right (by omega),<-Z j hj];congr 1;omega
theorem fZ.one {o:Off UInt8}{cs:List Value}(h:vR o cs):fZ [o] cs:=⟨cs,[],by simp,h,rfl⟩
abbrev tO:Nat:=166
theorem oJ:∀(n:Nat) {t:P},t.size<=n->Ok t->t.smp=true->t.size<=1000000->∀{w:World} {R:Value->Sg},(∀v w' xs,Ex w w'->cR tO w.heap.size w' v (offs t).length xs->fZ (offs t) xs->R v w')->Sh 145 #[.string (ai t.text)] w (aw [.v] R):=by
 intro n
 induction n with
 | zero=>intro t h;have :=bc t;omega
 | succ n ih=>
  intro t hn ok hs hsz w R h;refine qs _ w R ?_;dsimp only [go_sem];dsimp only [go_sem,UInt8.reduceOfNat,UInt32.reduceOfNat,Nat.reduceAdd];refine aQ ok ?_;have none_:offs t=[]->R (.slice none 0 0) w:=λe=>by
   have :=h (.slice none 0 0) w [] (Ex.refl w);rw [e]at this;exact this (cR.nil _ _ _) rfl
  cases t with
  | nil=>repeat' first | exact none_ rfl | refine aW (by simp [T.kind]) ?_
  | par p q=>repeat' first | exact none_ rfl | refine aW (by simp [T.kind]) ?_
  | res x p=>repeat' first | exact none_ rfl | refine aW (by simp [T.kind]) ?_
  | mat a b p=>repeat' first | exact none_ rfl | refine aW (by simp [T.kind]) ?_
  | snd a b p=>
   refine cZ rfl (cZ rfl ⟨λ _=>True,λw5 ε=>⟨trivial,⟨by omega,by simp [T.text];omega⟩,⟨by omega,by simp [T.text];omega⟩,⟨by omega,by simp [T.text];omega⟩,aQ ok ⟨trivial,λb8 w9 J G=>⟨trivial,?_⟩⟩⟩⟩);have x5:Ex w w5:=ε▸Ex.drew w;exact h _ w9 _ (Ex.trans x5 (G▸Ex.alloc w5 _)) (cR.one (cs:=gg 33 a b p.text false) rfl x5.size J G) (fZ.one ⟨false,rfl⟩)
  | rcv a b p=>
   refine aW (by simp [T.kind]) (cZ rfl ⟨λ _=>True,λw5 ε=>⟨trivial,⟨by omega,by simp [T.text];omega⟩,⟨by omega,by simp [T.text];omega⟩,⟨by omega,by simp [T.text];omega⟩,aQ ok ⟨trivial,λb8 w9 J G=>⟨trivial,?_⟩⟩⟩⟩);have x5:Ex w w5:=ε▸Ex.drew w;exact h _ w9 _ (Ex.trans x5 (G▸Ex.alloc w5 _)) (cR.one (cs:=gg 63 a b p.text false) rfl x5.size J G) (fZ.one rfl)
  | tau p=>
   refine aW (by simp [T.kind]) (aW (by simp [T.kind]) (cZ rfl ⟨⟨by omega,by simp [T.text];omega⟩,λb8 w9 J G=>?_⟩));exact h _ w9 _ (G▸Ex.alloc w _) (cR.one (cs:=gg 126 0 0 p.text false) rfl (OL _) J G) (fZ.one ⟨0,0,false,rfl⟩)
  | sum p q=>
   have hs:(p.gp&&q.gp&&(p.smp&&q.smp))=true:=hs;simp only [OD]at hs;have ζ:=ok.parts p (by simp [T.parts]);have ς:=ok.parts q (by simp [T.parts]);have e:(T.sum p q).size=p.size+q.size+1:=by simp only [T.size]
   refine aW (by simp [T.kind]) (aW (by simp [T.kind]) (aW (by simp [T.kind]) (cZ rfl (de ok λv1 w1 x1 κ=>⟨λw'=>Ex w1 w',λυ γ=>⟨γ▸Ex.drew w1,?_⟩⟩))));have H:Ex w1 υ:=γ▸Ex.drew w1;refine κ.HK (i:=0) (x:=p.text) (by omega) rfl (Q:=λn=>_) (κ.HK (i:=1) (x:=q.text) (by omega) rfl (Q:=λn=>_) ?_);have V:=Ex.trans x1 H;refine ih (by omega) ζ hs.2.1 (by omega) λv26 w27 xs W Z μ=>⟨Ex.trans H W,ih (by omega) ς hs.2.2 (by omega) λv28 φ ys α ν δ=>⟨Ex.trans H (Ex.trans W α),?_⟩⟩
   have β:=Ex.trans V (Ex.trans W α);have l1:=fW p;have l2:=fW q;refine cR.push ((Z.ex α).mono V.size) β.size (ν.src δ.len.2) (by omega) (by omega) λv35 ξ ho hg hn=>?_
   have χ:Below w.heap.size φ ξ:=Below.grown (Se _ _) hg β.size λk hk=>by have :=(Z.block k hk).1;have :=V.size;omega
   refine⟨Qm (Ex.trans H (Ex.trans W α)) ?_,h _ ξ _ (Ex.below β χ) (by rw [show(offs (T.sum p q)).length=(offs p).length+(offs q).length from OG];exact ho) (μ.app δ)⟩;exact Below.grown (Se _ _) hg (Ex.trans H (Ex.trans W α)).size λk hk=>by have :=(Z.block k hk).1;have :=H.size;omega
  | rep p=>
   have η:(p.isR&&p.smp)=true:=hs;simp only [OD]at η;have ζ:=ok.parts p (by simp [T.parts]);refine aW (by simp [T.kind]) (aW (by simp [T.kind]) (aW (by simp [T.kind]) (aW (by simp [T.kind]) (cZ rfl ⟨⟨by omega,by simp [T.text];omega⟩,?_⟩))));have e:(T.rep p).size=p.size+1:=by simp only [T.size]
   refine ih (t:=p) (by omega) ζ η.2 (by omega) λv w1 xs x1 ho hm=>?_
   cases p<;>try (simp [T.isR]at η;done)
   rename_i a b q;obtain⟨cs,ys,rfl,θ,rfl⟩:=hm;have θ:cs=gg 63 a b q.text false:=θ;subst θ;have ψ:(offs (T.rcv a b q)).length=1:=rfl;rw [ψ]at ho;rcases ho.cell with⟨_,h0,_⟩ | ⟨g,cap,rfl,hg,hc⟩
   ·cases h0
   have ω:=ho.fr (g:=g) rfl;have hgb:=(ho.block g rfl).1;refine⟨_,_,cap,rfl,λx w'=>(x=0/\w'=w1)\/(x=1/\w'=w1.setCell ⟨g,4,none⟩ (.bool true)),λx _=>(1 - x).toNat,.inl ⟨rfl,rfl⟩,λx w' hI=>⟨λι=>?_,λι=>?_⟩⟩
   ·rcases hI with⟨rfl,rfl⟩ | ⟨rfl,_⟩
    ·have c4:w'.cell? ⟨g,4,none⟩=some (.bool false):=hc 4 _ rfl;refine⟨g,0,_,cap,rfl,by omega,by omega,⟨⟨_,c4⟩,ω 4⟩,λw51 ο=>⟨by omega,.inr ⟨rfl,ο⟩,by show((1:Int) - (0+1)).toNat< ((1:Int) - 0).toNat;decide⟩⟩
    ·simp at ι
   ·rcases hI with⟨rfl,_⟩ | ⟨_,rfl⟩
    ·simp at ι
    ·exact h _ _ _ (Ex.own x1 hgb _) (ho.set rfl (by simp [gg])) (fZ.one rfl)
theorem F5 {u:U}(α:u.size<=60):(gZ u).length<=12960000:=by
 have Z:u.ths.length<=60:=by have :=zr u;omega
 have H:∀i (h:i< u.ths.length),(offs u.ths[i]).length<=60:=λi h=>by
  have G:=fW u.ths[i];have h2:=eN u _ (OK h);omega
 have V:∀i c d p k,k< u.ths.length->(E2 u i c d p k).length<=60:=λi c d p k hk=>by
  unfold E2;split
  ·simp
  ·rw [cS hk];have G:=iB (f:=E3 u i k c d p) (c:=1) (l:=offs u.ths[k]) λx _=>by
    cases x with
    | rcv e' x q s=>unfold E3;simp only;split<;>simp
    | _=>simp [E3]
   have :=H k hk;omega
 have W:∀i o,(E1 u i o).length<=3600:=λi o=>by
  cases o with
  | tau p=>simp [E1]
  | rcv=>simp [E1]
  | snd c d p=>
   have G:=iB (f:=E2 u i c d p) (c:=60) (l:=List.range u.ths.length) λx J=>V i c d p x (P7.1 J)
   rw [QM]at G;show((List.range u.ths.length).flatMap (E2 u i c d p)).length<=3600;omega
 have G:=iB (f:=E0 u) (c:=216000) (l:=List.range u.ths.length) λx J=>by
  rw [P7]at J;have G:=iB (f:=E1 u x) (c:=3600) (l:=offs u.ths[x]) λy _=>W x y
  have :=H x J;unfold E0;rw [cS J];omega
 rw [QM]at G;unfold gZ;omega
theorem pP {s:Tx}{l:List Tx}(h:sM s=some l):l.length<=12960000:=by
 unfold sM at h;split at h
 ·rename_i G;have ok:=G.choose_spec.1;generalize G.choose=t at ok h;have H:=ok.size;have J:=(mw ok.su.ae).2.2;unfold qp at h;split at h
  ·cases h;have V:=Ia (a6 (outs (gZ (num t e0 0).1)));have h2:=(aR (outs (gZ (num t e0 0).1))).length_eq;have W:=F5 (u:=(num t e0 0).1) (by omega);have h4:(outs (gZ (num t e0 0).1)).length=(gZ (num t e0 0).1).length:=by unfold outs;simp
   omega
  ·cases h
 ·cases h
structure zL (B b r:Nat)(fs:Tx)(w:World)(all:List Tx)(n:Nat)(mm:Value->Option Value)(L:Nat->Prop):Prop where
 lb:B<=b
 lt:b< w.heap.size
 lr:B<=r
 br:b≠r
 f:∀j,w.frozen? ⟨b,j,none⟩=false
 c0:w.cell? ⟨b,0,none⟩=some (.string (ai fs))
 c2:w.cell? ⟨b,2,none⟩=some (.map (some r))
 mp:IsMap w r .string mm
 ml:∀g,L g->B<=g/\g< w.heap.size/\g≠b/\g≠r
 sl:∃v,w.cell? ⟨b,1,none⟩=some v/\Own B w v all/\∀g,v.ownBlock=some g->g≠b/\g≠r/\¬L g
 nx:∀j (h:j< all.length),j< n->∃v l,mm (.string (ai all[j]))=some v/\sM all[j]=some l/\Strs w v l/\∀g,v.ownBlock=some g->L g
section
variable {B b r n:Nat} {fs:Tx} {w w':World} {all:List Tx} {mm:Value->Option Value} {L:Nat->Prop}
theorem zL.ex (h:zL B b r fs w all n mm L)(x:Ex w w'):zL B b r fs w' all n mm L:=by
 obtain⟨v,H,h2,J⟩:=h.sl;have s:=x.size;refine⟨h.lb,by have :=h.lt;omega,h.lr,h.br,λj=>by rw [PO x h.lt];exact h.f j,by rw [x.cell (a:=⟨b,0,none⟩) h.lt];exact h.c0,by rw [x.cell (a:=⟨b,2,none⟩) h.lt];exact h.c2,aS h.mp (x.block r (bT h.mp)),λg G=>⟨(h.ml g G).1,by have :=(h.ml g G).2.1;omega,(h.ml g G).2.2⟩,⟨v,by rw [x.cell (a:=⟨b,1,none⟩) h.lt];exact H,h2.ex x,J⟩,λj hj V=>?_⟩;obtain⟨v',l,h4,h5,W,Z⟩:=h.nx j hj V;exact⟨v',l,h4,h5,W.ex x,Z⟩
theorem Kp.jR (k:bs w w' r):Kp w w' λg=>g=r:=⟨k.os,k.tape,k.output,Nat.le_of_eq k.size.symm,λg _ G=>k.block g G⟩
theorem uW {v:Value}{g off m cap:Nat}(h:v= .slice (some ⟨g,off,none⟩) m cap):v.ownBlock=some g:=by rw [h];rfl
theorem zL.aI (h:zL B b r fs w all n mm L)(hB:B<=w.heap.size){w1:World}(x:Ex w w1)(hn:n< all.length){v:Value}{l:List Tx}(hl:sM all[n]=some l)(hm:IsMap w' r .string (bS mm (.string (ai all[n])) v))(k:bs w1 w' r)(hs:Strs w1 v l)(J:∀g,v.ownBlock=some g->w.heap.size<=g):
  zL B b r fs w' all (n+1) (bS mm (.string (ai all[n])) v) λg=>L g\/v.ownBlock=some g:=by
 have H:=h.ex x;have ζ:=h.lt;have hr:=bT h.mp;have kp:=Kp.jR k;have eb:=k.block b h.br;have α:∀g,v.ownBlock=some g->g< w1.heap.size:=λg G=>by
  rcases hs with⟨e,_⟩ | ⟨b',off,cap,e,h2,_⟩
  ·rw [e]at G;cases G
  ·rw [e]at G;cases G;exact h2
 obtain⟨vo,k1,k2,k3⟩:=H.sl;obtain⟨β,γ,δ,η⟩:=h.sl;have ε:vo=β:=by
  have :=x.cell (a:=⟨b,1,none⟩) h.lt;rw [k1,γ]at this;exact Pu this
 subst ε;refine⟨h.lb,by have :=k.size;have :=H.lt;omega,h.lr,h.br,λj=>by rw [O7 (w:=w1) eb];exact H.f j,by rw [OB (w:=w1) eb];exact H.c0,by rw [OB (w:=w1) eb];exact H.c2,hm,λg G=>?_,⟨vo,by rw [OB (w:=w1) eb];exact k1,k2.kp kp λg G=>(k3 g G).2.1,λg G=>⟨(k3 g G).1,(k3 g G).2.1,λe=>e.elim (k3 g G).2.2 λe=>?_⟩⟩,λj hj θ=>?_⟩
 ·rcases G with G | G
  ·have :=H.ml g G;exact⟨this.1,by have :=k.size;omega,this.2.2⟩
  ·have h2:=J g G;have h3:=α g G;exact⟨by omega,by have :=k.size;omega,by omega,by omega⟩
 ·have h2:=J g e;have h3:=δ.block g G;omega
 ·have V:∀{v':Value} {l':List Tx},Strs w1 v' l'->(∀g,v'.ownBlock=some g->g≠r)->Strs w' v' l':=λhs J=>hs.kp kp λb' off n' cap e W=>J b' (uW e) W
  by_cases e:all[j]=all[n]
  ·refine⟨v,l,by rw [e];unfold bS;simp,by rw [e];exact hl,V hs λg G=>by have :=J g G;omega,λg G=> .inr G⟩
  ·have Z:j< n:=by
    have:j≠n:=λW=>e (by subst W;rfl)
    omega
   obtain⟨v',l',h4,h5,h6,h7⟩:=H.nx j hj Z;refine⟨v',l',?_,h5,V h6 λg G=>(H.ml g (h7 g G)).2.2.2,λg G=> .inl (h7 g G)⟩;unfold bS;rw [OW]
   ·exact h4
   ·intro W;exact e (eP (Ru W))
theorem zL.app (h:zL B b r fs w all n mm L)(hn:n<=all.length)(hB:B<=w.heap.size){v:Value}(hv:w.cell? ⟨b,1,none⟩=some v){s:Tx}{w1 w2:World}(x:Ex w w1){v':Value}(ho:Own B w2 v' (all++[s]))(H:w1.grownBy w2 v.ownBlock)(α:∀g,v'.ownBlock=some g->v.ownBlock=some g\/w1.heap.size<=g):
  ((∃u,w2.cell? ⟨b,1,none⟩=some u)/\w2.frozen? ⟨b,1,none⟩=false)/\∀w',w'=w2.setCell ⟨b,1,none⟩ v'->zL B b r fs w' (all++[s]) n mm L/\Below B w w':=by
 have G:=h.ex x;obtain⟨vo,k1,k2,k3⟩:=G.sl;have β:vo=v:=by
  have :=x.cell (a:=⟨b,1,none⟩) h.lt;rw [k1,hv]at this;exact Pu this
 subst β;have k:Kp w1 w2 λg=>vo.ownBlock=some g:=Kp.aK H λ _ h=>h
 have s1:=x.size;have γ:=G.lt;have e2:=k.block b γ λe=>(k3 b e).1 rfl
 have c1:w2.cell? ⟨b,1,none⟩=some vo:=by rw [OB (w:=w1) e2];exact k1
 have f2:∀j,w2.frozen? ⟨b,j,none⟩=false:=λj=>by rw [O7 (w:=w1) e2];exact G.f j
 refine⟨⟨⟨_,c1⟩,f2 1⟩,λw' J=>?_⟩;have kr:Kr b w2 w':=J▸Kr.set w2 1 _;have sk:=k.size;have sr:=kr.size;have δ:=bT G.mp;have V:∀g,v'.ownBlock=some g->g≠b/\g≠r/\¬L g:=λg H=>(α g H).elim (k3 g) λe=>⟨by omega,by omega,λhL=>by have :=(G.ml g hL).2.1;omega⟩
 have ε:∀{g},g≠b->g< w1.heap.size->vo.ownBlock≠some g->w'.heap[g]?=w1.heap[g]?:=λ{g} h3 h4 h5=>(kr.block g (by omega) h3).trans (k.block g h4 h5)
 refine⟨⟨h.lb,by omega,h.lr,h.br,λj=>by rw [J,OV];exact f2 j,?_,?_,aS G.mp (ε h.br.symm δ λe=>(k3 r e).2.1 rfl),λg H=>⟨(G.ml g H).1,by have :=(G.ml g H).2.1;omega,(G.ml g H).2.2⟩,⟨v',by rw [J];exact OT _ _ _ c1,ho.kp kr λg H=>(V g H).1,V⟩,λj hj ζ=>?_⟩,?_⟩
 ·rw [J,OF _ _ _ _ (by simp),OB (w:=w1) e2];exact G.c0
 ·rw [J,OF _ _ _ _ (by simp),OB (w:=w1) e2];exact G.c2
 ·have W:j< all.length:=by omega
  rw [P2 W];obtain⟨v2,l2,h4,h5,h6,h7⟩:=G.nx j W ζ;have kk:Kp w1 w' λg=>vo.ownBlock=some g\/g=b:=Kp.trans (Kp.mono (λ _ h=> .inl h) k) kr λ _ _ h=> .inr h
  exact⟨v2,l2,h4,h5,h6.kp kk λb' off n' cap e Z=>Z.elim (λZ=>(k3 b' Z).2.2 (h7 b' (uW e))) λZ=>(G.ml b' (h7 b' (uW e))).2.2.1 Z,h7⟩
 ·have b1:Below B w w1:=Rx x hB;have b2:Below B w1 w2:=Kp.below k (by omega) λg H e=>by have :=(k2.block g e).1;omega
  have b3:Below B w2 w':=Kp.below kr (by omega) λg H e=>by have :=h.lb;omega
  exact Qm (Qm b1 b2) b3
end
def Gr (w0:World)(o0:Value)(w:World)(o:Value):Prop:=Kp w0 w (λg=>o0.ownBlock=some g)/\∀g,o.ownBlock=some g->o0.ownBlock=some g\/w0.heap.size<=g
theorem Gr.refl (w:World)(o:Value):Gr w o w o:=⟨Kp.af (Ex.refl w) _,λ _ h=> .inl h⟩
theorem Gr.size {w0 w:World}{o0 o:Value}(h:Gr w0 o0 w o):w0.heap.size<=w.heap.size:=h.1.size
theorem Gr.trans {a b c:World}{G H J:Value}(h:Gr a G b H)(k:Gr b H c J):Gr a G c J:=
 ⟨Kp.trans h.1 k.1 λg V e=>(h.2 g e).resolve_right λW=>by omega,λg V=>(k.2 g V).elim (λe=>h.2 g e) λe=> .inr (PI h.1.size e)⟩
theorem Gr.ex {w0 w w':World}{o0 o:Value}(h:Gr w0 o0 w o)(x:Ex w w'):Gr w0 o0 w' o:=h.trans ⟨Kp.af x _,λ _ e=> .inl e⟩
theorem Gr.grown {w0 w w':World}{o0 o G:Value}(h:Gr w0 o0 w o)(H:w.grownBy w' o.ownBlock)(J:∀g,G.ownBlock=some g->o.ownBlock=some g\/w.heap.size<=g):Gr w0 o0 w' G:=
 h.trans ⟨Kp.aK H λ _ e=>e,J⟩
theorem Gr.nil {w0 w:World}{o0 o:Value}(h:Gr w0 o0 w o)(G:o0.ownBlock=none):Ex w0 w:=by
 obtain⟨k,_⟩:=h;exact⟨k.os,k.tape,k.output,k.size,λg H=>k.block g H (by rw [G];simp)⟩
structure oD (B:Nat)(w0:World)(o0:Value)(fine:Bool)(out:Value)(w:World)(acc:List U):Prop where
 gr:Gr w0 o0 w out
 ow:Own B w out (outs acc)
 fi:fine=jB acc
 hB:B<=w0.heap.size
section
variable {B:Nat} {w0 w w':World} {o0 out:Value} {fine:Bool} {acc:List U}
theorem oD.ex (h:oD B w0 o0 fine out w acc)(x:Ex w w'):oD B w0 o0 fine out w' acc:=⟨h.gr.ex x,h.ow.ex x,h.fi,h.hB⟩
theorem oD.start (h:oD B w0 o0 fine out w acc):oD B w out fine out w acc:=⟨Gr.refl _ _,h.ow,h.fi,PI h.hB h.gr.size⟩
theorem oD.back {w1:World}{H J:Value}{f2:Bool}{G:List U}(h:oD B w0 o0 fine H w1 acc)(k:oD B w1 H f2 J w G):oD B w0 o0 f2 J w G:=⟨h.gr.trans k.gr,k.ow,k.fi,h.hB⟩
theorem oD.lt (h:oD B w0 o0 fine out w acc):∀g,out.ownBlock=some g->g< w.heap.size:=λg G=>(h.ow.block g G).2
theorem zW (l:List U):(outs l).length=l.length:=by unfold outs;simp
theorem KX (h:oD B w0 o0 fine out w acc)(hl:acc.length<=1000000000){vv:U}{s:aB}{q:Bool}(hs:s=(kN vv).getD [])(hq:q=(kN vv).isSome){K:Bool->Value->Sg}(hK:∀fn v' w',oD B w0 o0 fn v' w' (acc++[vv])->K fn v' w'):
  ∃J:Bool->aB->Sg,((fine=true->J q s w)/\(fine=false->J false s w))/\∀(fn:Bool) (nx:aB) (W:World),J fn nx W->∀(ζ:Nat) (H:World),ζ=Array.size (World.heap W)->H=World.alloc W (Obj.cells #[(Value.string (ai nx))] 9)->
   ∃(G β γ:Nat) (δ V:List Value),World.ownsRow H G 9 1 out β δ/\G<=Array.size (World.heap H)/\dY H (Value.slice (some ⟨ζ,0,none⟩) 1 1) γ 1 V/\(β+γ<=maxLen/\(β+γ)* 16<=140737488355328)/\
   ∀(Z:Value) (α:World),World.ownsRow α G 9 1 Z (β+γ) (δ++V)->World.grownBy H α (Value.ownBlock out)->(∀b:Nat,Value.ownBlock Z=some b->Value.ownBlock out=some b\/Array.size (World.heap H)<=b)->K fn Z α:=by
 have e2:jB (acc++[vv])=(fine&&q):=by
  rw [xn,hq,h.fi];simp [jB]
 refine⟨λfn nx w'=>fn=jB (acc++[vv])/\nx=s/\w'=w,⟨λhf=>⟨by rw [e2,hf,Qx],rfl,rfl⟩,λhf=>⟨by rw [e2,hf,Sa],rfl,rfl⟩⟩,λfn nx W hJ ζ H θ ε=>?_⟩;obtain⟨ι,rfl,rfl⟩:=hJ;have η:Ex W H:=ε▸Ex.alloc W _;refine Own.push (h.ow.ex η) (PI h.hB (PI h.gr.size η.size)) (Strs.one θ ε) (by rw [zW];simp only [OA,OS];omega) λZ α κ ho hg hn=>hK fn Z α ⟨(h.gr.ex η).grown hg hn,?_,ι,h.hB⟩
 rw [z7,show outs [vv]=[nx] by rw [hs];rfl];exact ho
end
theorem HD {f:Tx}{ps:List P}{v:Value}{w:World}{u:U}(G:Strs w v (ps.map T.text))(H:dE (ps.map T.text)<=1000000000)(d:py 0 (resL f (parL ps)) σ0 u){R:aB->Bool->Sg}
  (h:∀s q w',Ex w w'->s=(kN u).getD []->q=(kN u).isSome->R s q w'):Sh 151 #[.string (ai f),v] w (aw [.s,.b] R):=
 GZ G H d λw' x=>⟨λs e=>h s true w' x (by rw [e];rfl) (by rw [e];rfl),λe=>h [] false w' x (by rw [e];rfl) (by rw [e];rfl)⟩
theorem EN {c:Nat}:∀{l:List Tx},(∀s∈l,s.length<=c)->dE l<=l.length* (c+3)
 | [],_=>by simp [dE]
 | s::l,h=>by
  have H:=h s (by simp);have h2:=EN (c:=c) (l:=l) λx G=>h x (by simp [G])
  rw [dZ,OA,Nat.succ_mul];omega
theorem yl {X:Type}(l:List X)(i j:Nat):(wo l i j).length<=l.length:=by
 unfold wo;rw [O3];exact PI (QD _ _) (by simp)
theorem GD {X Y:Type}(f:X->Y)(l:List X)(i j:Nat):wo (l.map f) i j=(wo l i j).map f:=by
 rw [CU,CU,xQ]
theorem lens {u:U}(δ:u.size<=60):u.ths.length<=60/\(∀i (h:i< u.ths.length),(offs u.ths[i]).length<=60)/\(∀i k c d p (l:List (Off Nat)),l.length<=60->(l.flatMap (E3 u i k c d p)).length<=60)/\(∀i c d p k,k<=u.ths.length->((List.range k).flatMap (E2 u i c d p)).length<=3600)/\
  (∀i j (h:i< u.ths.length),(((offs u.ths[i]).take j).flatMap (E1 u i)).length<=216000)/\∀i,i<=u.ths.length->((List.range i).flatMap (E0 u)).length<=12960000:=by
 have W:u.ths.length<=60:=by have :=zr u;omega
 have J:∀i (h:i< u.ths.length),(offs u.ths[i]).length<=60:=λi h=>by
  have V:=fW u.ths[i];have h2:=eN u _ (OK h);omega
 have Z:∀i k c d p (l:List (Off Nat)),l.length<=60->(l.flatMap (E3 u i k c d p)).length<=60:=λi k c d p l hl=>by
  have V:=iB (f:=E3 u i k c d p) (c:=1) (l:=l) λx _=>by
   cases x with
   | rcv e' x q s=>unfold E3;simp only;split<;>simp
   | _=>simp [E3]
  omega
 have β:∀i c d p k,k< u.ths.length->(E2 u i c d p k).length<=60:=λi c d p k hk=>by
  unfold E2;split
  ·simp
  ·rw [cS hk];exact Z i k c d p _ (J k hk)
 have G:∀i c d p k,k<=u.ths.length->((List.range k).flatMap (E2 u i c d p)).length<=3600:=λi c d p k hk=>by
  have V:=iB (f:=E2 u i c d p) (c:=60) (l:=List.range k) λx hx=>β i c d p x (by have :=P7.1 hx;omega)
  rw [QM]at V;omega
 have γ:∀i o,(E1 u i o).length<=3600:=λi o=>by
  cases o with
  | tau p=>simp [E1]
  | rcv=>simp [E1]
  | snd c d p=>exact G i c d p _ (OL _)
 have H:∀i j (h:i< u.ths.length),(((offs u.ths[i]).take j).flatMap (E1 u i)).length<=216000:=λi j h=>by
  have V:=iB (f:=E1 u i) (c:=3600) (l:=(offs u.ths[i]).take j) λx _=>γ i x
  rw [Pm]at V;have :=J i h;omega
 refine⟨W,J,Z,G,H,λi hi=>?_⟩;have V:=iB (f:=E0 u) (c:=216000) (l:=List.range i) λx hx=>by
  have hx:=P7.1 hx;have α:x< u.ths.length:=by omega
  have :=H x (offs u.ths[x]).length α;rw [O6]at this;unfold E0;rw [cS α];exact this
 rw [QM]at V;omega
abbrev tS:Nat:=9
def Fg (w:World)(v src:Value)(K:Value->Sg):Prop:=
 ∃(base n m:Nat) (xs news:List Value),World.ownsRow w base tS 1 v n xs/\base<=Array.size (World.heap w)/\dY w src m 1 news/\(n+m<=maxLen/\(n+m)* 16<=140737488355328)/\
  ∀(v':Value) (w':World),World.ownsRow w' base tS 1 v' (n+m) (xs++news)->World.grownBy w w' (Value.ownBlock v)->(∀b:Nat,Value.ownBlock v'=some b->Value.ownBlock v=some b\/Array.size (World.heap w)<=b)->K v' w'
theorem Et {B:Nat}{w:World}{v x:Value}{l m:List Tx}(h:Own B w v l)(hB:B<=w.heap.size)(G:Strs w x m)(H:l.length+m.length<=1099511627776){K:Value->Sg}(J:∀v' w',Below B w w'->Own B w' v' (l++m)->K v' w'):Fg w v x K:=
 Own.push h hB G H λv' w' b o _ _=>J v' w' b o
def Kf (w:World)(out:Value)(fine:Bool)(s:aB)(q:Bool)(K:Bool->Value->Sg):Prop:=
 ∃J:Bool->aB->Sg,((fine=true->J q s w)/\(fine=false->J false s w))/\∀(fn:Bool) (nx:aB) (G:World),J fn nx G->∀(H:Nat) (V:World),H=Array.size (World.heap G)->V=World.alloc G (Obj.cells #[(Value.string (ai nx))] tS)->Fg V out (Value.slice (some ⟨H,0,none⟩) 1 1) (K fn)
theorem Nc {ps:List P}(h:∀q∈ps,q.aN<=300)(G:ps.length<=63):dE (ps.map T.text)<=1000000000:=by
 have H:=EN (c:=300) (l:=ps.map T.text) λs J=>by
  obtain⟨q,V,rfl⟩:=Pp.1 J;rw [aX];exact h q V
 rw [O3]at H;have :=RO G (OL 303);omega
theorem yc {t:P}(ok:m5 t):t.ths.length<=60/\∀q∈t.ths,q.size<=60/\q.aN<=300:=by
 have J:=ok.size;have H:∀t:P,t.ths.length<=t.size/\∀q∈t.ths,q.size<=t.size:=by
  intro t
  induction t with
  | nil=>simp [T.ths]
  | par p q _ G=>
   refine⟨by have :=G.1;simp only [T.ths,OA,T.size];omega,λr hr=>?_⟩;rcases OY.1 hr with rfl | hr
   ·simp only [T.size];omega
   ·have :=G.2 r hr;simp only [T.size];omega
  | res x p G=>exact⟨by have :=G.1;simp only [T.ths,T.size];omega,λr hr=>by have :=G.2 r hr;simp only [T.size];omega⟩
  | _=>simp [T.ths,T.size]
 refine⟨by have :=(H t).1;omega,λq V=>?_⟩;have h2:=(H t).2 q V;have W:=eu q;omega
theorem Hv {w w':World}{b:Nat}{x y:Tx}(hb:b=w.heap.size)(h:w'=w.alloc (.cells #[.string (ai x),.string (ai y)] tS)):Strs w' (.slice (some ⟨b,0,none⟩) 2 2) [x,y]:=by
 subst hb h;refine .inr ⟨_,0,2,rfl,by rw [size_alloc];omega,λi z G=>?_⟩;rw [Pa];refine aa ?_
 match i,G with
 | 0,G=>simp at G|-;exact G▸rfl
 | 1,G=>simp at G|-;exact G▸rfl
 | i+2,G=>simp at G
section
variable {t:P} {u:U} {w:World} {v5 out:Value} {b1 b2 B:Nat} {fine:Bool} {acc:List U}
theorem LI (ok:m5 t)(su:SU t u){i:Nat}(hi:i< t.ths.length)(hi':i< u.ths.length){p:P}{p':U}(ho:Off.tau p∈offs t.ths[i])(ho':Off.tau p'∈offs u.ths[i])(hae:ri UInt8.toNat (λz=>(asg u.frL t.frL ρ0 z).toNat) (.tau p) (.tau p'))
  (hv:Strs w v5 (t.ths.map T.text)) (hb:b1< w.heap.size) (hc:w.cell? ⟨b1,3,none⟩=some (.string (ai p.text))) (hI:oD B w out fine out w acc) (hl:acc.length<=1000000000) {J:Bool->Value->Sg} (hJ:∀fn v' w',oD B w out fn v' w' (acc++[MG u i p'])->J fn v' w'):
  ∃G:Sg,∀H:World,H=World.drew w->G H/\∃η:aB,(∀w',G w'->World.cell? w' ⟨b1,3,none⟩=some (Value.string (ai η)))/\
   (Sh 152 #[v5,(Value.int IntKind.i64 i),(Value.int IntKind.i64 i)] H (aw [.v] fun(v49:Value) (Z:World)=>G Z/\∀(θ:Nat) (β:World),θ=Array.size (World.heap Z)->β=World.alloc Z (Obj.cells #[(Value.string (ai η))] tS)->G β/\Fg β v49 (Value.slice (some ⟨θ,0,none⟩) 1 1) λξ ι=>G ι/\Sh 151 #[(Value.string (ai t.frL)),ξ] ι (aw [.s,.b] fun(s60:aB) (q61:Bool) (ο:World)=>G ο/\Kf ο out fine s60 q61 J)))/\
   (∀(κ:Nat) (γ:World),κ=Array.size (World.heap H)->γ=World.alloc H (Obj.cells #[(Value.string (ai η))] tS)->G γ/\Sh 152 #[v5,(Value.int IntKind.i64 i),(Value.int IntKind.i64 i)] γ (aw [.v] fun(ς:Value) (μ:World)=>G μ/\Fg μ ς (Value.slice (some ⟨κ,0,none⟩) 1 1) λv85 ν=>G ν/\Sh 151 #[(Value.string (ai t.frL)),v85] ν (aw [.s,.b] fun(s87:aB) (q88:Bool) (υ:World)=>G υ/\Kf υ out fine s87 q88 J))):=by
 obtain⟨hn,φ⟩:=yc ok;have χ:=OK hi;have hpl:p.aN<=300:=by
  have h1:=(aY (su.smpP _ χ) _ ho).1.size;have h2:=(φ _ χ).1;have h3:=eu p;simp only [Off.tm,T.size]at h1;omega
 have hwl:=yl t.ths i i;have hbound:dE ((wo t.ths i i++[p]).map T.text)<=1000000000:=by
  refine Nc (λq hq=>?_) (by rw [OG,P0];omega);rcases OM.1 hq with hq | hq
  ·exact(φ _ (lC hq)).2
  ·cases OJ.1 hq;exact hpl
 have den:=(D4 ok su hi hi' ho ho' hae).1;have e:wo (t.ths.map T.text) i i++[p.text]=(wo t.ths i i++[p]).map T.text:=by rw [GD,PC];rfl
 have ψ:(wo (t.ths.map T.text) i i).length+[p.text].length<=1099511627776:=by
  have :=yl (t.ths.map T.text) i i;rw [O3]at this;simp only [OA,OS];omega
 have mk:∀{v':Value} {w':World},Ex w w'->Strs w' v' ((wo t.ths i i++[p]).map T.text)->Sh 151 #[(Value.string (ai t.frL)),v'] w' (aw [.s,.b] fun(s:aB) (q:Bool) (w2:World)=>Ex w w2/\Kf w2 out fine s q J):=λx hs=>
  HD hs hbound den λs q w2 x2 h1 h2=>⟨Ex.trans x x2,KX (hI.ex (Ex.trans x x2)) hl h1 h2 hJ⟩
 refine⟨λw'=>Ex w w',λH ω=>?_⟩;have α:Ex w H:=ω▸Ex.drew w;refine⟨α,p.text,λw' x=>by rw [x.cell (a:=⟨b1,3,none⟩) hb];exact hc,?_,λκ γ hb76 ε=>?_⟩
 ·refine lU (hv.ex α) (by rw [O3];omega) λv49 Z x50 o50=>⟨Ex.trans α x50,λθ β hb51 ζ=>?_⟩
  have x52:Ex Z β:=ζ▸Ex.alloc Z _;have V:=Ex.trans x50 x52;refine⟨Ex.trans α V,Et (o50.ex x52) V.size (Strs.one hb51 ζ) ψ λξ ι b59 o59=>?_⟩;have x59:=Ex.trans α (Ex.below V b59);exact⟨x59,mk x59 (e▸o59.strs)⟩
 ·have x77:Ex H γ:=ε▸Ex.alloc H _;have W:=Ex.trans α x77;refine⟨W,lU (hv.ex W) (by rw [O3];omega) λς μ δ o79=>⟨Ex.trans W δ,Et o79 δ.size ((Strs.one hb76 ε).ex δ) ψ λv85 ν b86 o86=>?_⟩⟩;have x86:=Ex.trans W (Ex.below δ b86);exact⟨x86,mk x86 (e▸o86.strs)⟩
theorem Jj (ok:m5 t)(su:SU t u){i k:Nat}(hi:i< t.ths.length)(hi':i< u.ths.length)(hk:k< t.ths.length)(χ:k< u.ths.length)(hik:i≠k){a b:UInt8}{p:P}{c d:Nat}{p':U}(ho:Off.snd a b p∈offs t.ths[i])(ho':Off.snd c d p'∈offs u.ths[i])
  (hae:ri UInt8.toNat (λz=>(asg u.frL t.frL ρ0 z).toNat) (.snd a b p) (.snd c d p')) {e x:UInt8} {q:P} {s:Bool} {e' x':Nat} {q':U} {s':Bool} (hr:Off.rcv e x q s∈offs t.ths[k]) (hr':Off.rcv e' x' q' s'∈offs u.ths[k])
  (har:ri UInt8.toNat (λz=>(asg u.frL t.frL ρ0 z).toNat) (.rcv e x q s) (.rcv e' x' q' s'))
  (hv:Strs w v5 (t.ths.map T.text)) (hb:b1< w.heap.size) (hb2:b2< w.heap.size) (hc2:w.cell? ⟨b1,2,none⟩=some (.int .u8 b.toNat)) (hc3:w.cell? ⟨b1,3,none⟩=some (.string (ai p.text))) (hd2:w.cell? ⟨b2,2,none⟩=some (.int .u8 x.toNat)) (hd3:w.cell? ⟨b2,3,none⟩=some (.string (ai q.text))) (hd4:w.cell? ⟨b2,4,none⟩=some (.bool s))
  (hI:oD B w out fine out w acc) (hl:acc.length<=1000000000) {J:Bool->Value->Sg} (hJ:∀fn v' w',oD B w out fn v' w' (acc++[Gd u i k p' (q'.map (Ff (NN u) q' x' d)) s'])->J fn v' w'):
  ∃G:Sg,∀β:World,β=World.drew w->G β/\∃ω:aB,(∀w',G w'->World.cell? w' ⟨b1,3,none⟩=some (Value.string (ai ω)))/\∃s150:aB,(∀w',G w'->World.cell? w' ⟨b2,3,none⟩=some (Value.string (ai s150)))/\∃c151:UInt8,(∀w',G w'->World.cell? w' ⟨b2,2,none⟩=some (Value.int IntKind.u8 (UInt8.toNat c151)))/\∃c152:UInt8,(∀w',G w'->World.cell? w' ⟨b1,2,none⟩=some (Value.int IntKind.u8 (UInt8.toNat c152)))/\
   Sh 152 #[v5,(Value.int IntKind.i64 i),(Value.int IntKind.i64 k)] β (aw [.v] fun(v153:Value) (ι:World)=>G ι/\Sh 153 #[(Value.string (ai s150)),(Value.int IntKind.u8 (UInt8.toNat c151)),(Value.int IntKind.u8 (UInt8.toNat c152))] ι (aw [.s] fun(s155:aB) (Z:World)=>G Z/\∀(η:Nat) (α:World),η=Array.size (World.heap Z)->α=World.alloc Z (Obj.cells #[(Value.string (ai ω)),(Value.string (ai s155))] tS)->G α/\Fg α v153 (Value.slice (some ⟨η,0,none⟩) 2 2) λv164 H=>G H/\
    ∃κ:Value->Sg,(∃μ:Bool,World.cell? H ⟨b2,4,none⟩=some (Value.bool μ)/\(μ=true->∀(ν:Nat) (θ:World),ν=Array.size (World.heap H)->θ=World.alloc H (Obj.cells #[(Value.string (ai t.ths[k].text))] tS)->Fg θ v164 (Value.slice (some ⟨ν,0,none⟩) 1 1) κ)/\(μ=false->κ (v164) H))/\
    ∀(γ:Value) (ξ:World),κ γ ξ->Sh 151 #[(Value.string (ai t.frL)),γ] ξ (aw [.s,.b] fun(s179:aB) (q180:Bool) (w181:World)=>Kf w181 out fine s179 q180 J))):=by
 obtain⟨hn,ψ⟩:=yc ok;have hmP:=OK hi;have hmK:=OK hk;have hmU:=OK χ;obtain⟨sP,_⟩:=aY (su.smpP _ hmP) _ ho;obtain⟨sK,_⟩:=aY (su.smpP _ hmK) _ hr;have hpl:p.aN<=300:=by
  have h1:=sP.size;have h2:=(ψ _ hmP).1;have h3:=eu p;simp only [Off.tm,T.size]at h1;omega
 have hqs:q.size<=60:=by
  have h1:=sK.size;have h2:=(ψ _ hmK).1;simp only [Off.tm,T.size]at h1;omega
 obtain⟨hq1,hq2,hq3⟩:=MP ok su hk hr;have alb:=(sP.al _ (su.al _ hmP)).2.1;have hwl:=yl t.ths i k;have ew:wo (t.ths.map T.text) i k=(wo t.ths i k).map T.text:=GD _ _ _ _;have uqr:=su.lW χ (aY (su.smp _ hmU) _ hr').1 (gL _ hr');have hss:s=s':=har.2.2;have umc:Gd u i k p' (q'.map (Ff (NN u) q' x' d)) s'=resL u.frL (parL (bM u.ths i k p' (q'.map (Ff (NN u) q' x' d)) s' u.ths[k])):=by unfold Gd;rw [cS χ]
 refine⟨λw'=>Ex w w',λβ hw148=>?_⟩;have V:Ex w β:=hw148▸Ex.drew w;refine⟨V,p.text,λw' x=>by rw [x.cell (a:=⟨b1,3,none⟩) hb];exact hc3,q.text,λw' x=>by rw [x.cell (a:=⟨b2,3,none⟩) hb2];exact hd3,x,λw' x=>by rw [x.cell (a:=⟨b2,2,none⟩) hb2];exact hd2,b,λw' x=>by rw [x.cell (a:=⟨b1,2,none⟩) hb];exact hc2,?_⟩;refine lU (hv.ex V) (by rw [O3];omega) λv153 ι ο o154=>⟨Ex.trans V ο,?_⟩
 refine hZ q.size (OL _) hq1 hq2 hq3 (iL alb) (Cx alb 0) λr Z ς hr2=>⟨Ex.trans (Ex.trans V ο) ς,λη α hb157 υ=>?_⟩
 have x158:Ex Z α:=υ▸Ex.alloc Z _;have W:=Ex.trans ο (Ex.trans ς x158);have x0158:=Ex.trans V W;have hrl:r.aN<=300:=by
  have h1:=(BN hr2.shp).2.2;have h2:=eu q;omega
 have den:=(AM ok su hi hi' hk χ hik ho ho' hae hr hr' har (Cb (NN u) d uqr.lL) su.bound (by unfold NN;omega) hr2).1;rw [<-umc]at den;have hlw:(wo (t.ths.map T.text) i k).length<=60:=by
  have :=yl (t.ths.map T.text) i k;rw [O3]at this;omega
 have two:Strs α (.slice (some ⟨η,0,none⟩) 2 2) [p.text,r.text]:=Hv hb157 υ;refine⟨x0158,Et (o154.ex (Ex.trans ς x158)) W.size two (by simp only [OA,OS];omega) λv164 H b165 o165=>?_⟩;have δ:=Ex.below W b165;have ζ:=Ex.trans V δ;refine⟨ζ,λv' w'=>Ex w w'/\Strs w' v' ((bM t.ths i k p r s t.ths[k]).map T.text),⟨s,by rw [ζ.cell (a:=⟨b2,4,none⟩) hb2];exact hd4,λhs ν θ hb168 φ=>?_,λhs=>⟨ζ,?_⟩⟩,λv177 ξ hJ178=>?_⟩
 ·have x169:Ex H θ:=φ▸Ex.alloc H _;have ε:=Ex.trans δ x169;refine Et (o165.ex x169) ε.size (Strs.one hb168 φ) (by simp only [OG,OA,OS];omega) λv175 w176 b176 o176=>⟨Ex.trans V (Ex.below ε b176),?_⟩
  have h:=o176.strs;rw [ew]at h;unfold bM;rw [hs];simpa using h
 ·have h:=o165.strs;rw [ew]at h;unfold bM;rw [hs];simpa using h
 ·obtain⟨x178,hs178⟩:=hJ178;refine HD hs178 (Nc (λz hz=>?_) ?_) den λsx qx w2 x2 h1 h2=>KX (hI.ex (Ex.trans x178 x2)) hl h1 h2 hJ
  ·unfold bM at hz;rcases OM.1 hz with hz | hz
   ·rcases OM.1 hz with hz | hz
    ·exact(ψ _ (lC hz)).2
    ·rcases OY.1 hz with rfl | hz
     ·exact hpl
     ·cases OJ.1 hz;exact hrl
   ·cases s
    ·cases hz
    ·cases OJ.1 hz;exact(ψ _ hmK).2
  ·unfold bM;simp only [OG,OA,OS];split<;>simp only [OA,OS]<;>omega
end
theorem tQ {e B:Nat}{w:World}{v:Value}{os:List (Off UInt8)}{xs:List Value}(G:cR e B w v os.length xs)(hm:fZ os xs){j:Nat}(hj:j< os.length):∃(g cap:Nat) (cs:List Value),v= .slice (some ⟨g,0,none⟩) os.length cap/\vR os[j] cs/\∀i u,cs[i]?=some u->∀off,off=j* 5+i->i< 5->w.cell? ⟨g,off,none⟩=some u:=by
 obtain⟨cs,H,h2⟩:=hm.at hj;rcases G.cell with⟨_,J,_⟩ | ⟨g,cap,rfl,_,hc⟩
 ·omega
 ·refine⟨g,cap,cs,rfl,H,λi u hu off he hi=>?_⟩;have :=hc (j* 5+i) u (by rw [h2 i hi];exact hu);rw [he];rwa [Pa]at this
theorem LK {w w1:World}{g e:Nat}{cs:List Value}{c0:Array Value}(Z:cs.length=5)(h0:c0.size=5)(J:g=w.heap.size)(G:w1=w.alloc (.cells c0 e)):
  (∀j,j< 5->(∃u,w1.cell? ⟨g,0+j,none⟩=some u)/\w1.frozen? ⟨g,0+j,none⟩=false)/\∀w2,w2=World.setCells w1 g 0 cs->Ex w w2/\g< w2.heap.size/\∀j,j< 5->w2.cell? ⟨g,j,none⟩=cs[j]?:=by
 have hc:∀j,j< 5->∃u,w1.cell? ⟨g,0+j,none⟩=some u:=λj hj=>by
  rw [G,J];have:∃u,c0[0+j]?=some u:=by
   rw [Pa];exact⟨_,Array.getElem?_eq_getElem (by omega)⟩
  obtain⟨u,hu⟩:=this;exact⟨u,aa hu⟩
 refine⟨λj hj=>⟨hc j hj,by rw [G,J];exact aG _ _ _ _⟩,λw2 H=>?_⟩;obtain⟨k,_,_,V⟩:=aJ (b:=g) cs w1 0;rw [<-H]at k V;have W:Ex w w1:=G▸Ex.alloc _ _;have s1:w1.heap.size=w.heap.size+1:=by rw [G,size_alloc]
 have s2:=k.size;refine⟨Ex.below W (Kp.below k W.size λb hb e=>by omega),by omega,λj hj=>?_⟩;have :=V j (λi hi=>hc i (by omega)) (by omega)
 rwa [Pa]at this
theorem uJ {k a b:UInt8}{s:Tx}{q:Bool}:(gg k a b s q).all ay=true:=rfl
theorem Gr.cell {w0 w:World}{o0 o:Value}(h:Gr w0 o0 w o){a:Addr}(ha:a.block< w0.heap.size)(G:o0.ownBlock≠some a.block):w.cell? a=w0.cell? a:=by
 cases a with
 | mk b i t=>exact OB (w:=w0) (h.1.block b ha G)
theorem Gr.strs {w0 w:World}{o0 o v:Value}{l:List Tx}(h:Gr w0 o0 w o)(H:Strs w0 v l)(G:∀g,v.ownBlock=some g->o0.ownBlock≠some g):Strs w v l:=
 H.kp h.1 λb off n cap e J=>G b (uW e) J
theorem cR.gr {e B:Nat}{w0 w:World}{o0 o v:Value}{n:Nat}{xs:List Value}(h:cR e B w0 v n xs)(k:Gr w0 o0 w o)(G:∀g,v.ownBlock=some g->o0.ownBlock≠some g):cR e B w v n xs:=
 h.kp k.1 G
theorem cR.slice {e B:Nat}{w:World}{v:Value}{n:Nat}{xs:List Value}(h:cR e B w v n xs):∃a cap,v= .slice a n cap:=by
 rcases h.cell with⟨G,h2,_⟩ | ⟨g,cap,G,_⟩
 ·exact⟨none,0,by rw [G,h2]⟩
 ·exact⟨_,cap,G⟩
theorem Bc {t:P}(ok:m5 t){w:World}{R:Value->Bool->Sg}(hR1:qp (num t e0 0).1=none->∀w',Ex w w'->R (.slice none 0 0) false w')(hR2:∀l,qp (num t e0 0).1=some l->∀v w',Ex w w'->Own w.heap.size w' v l->R v true w'):
  Sh 102 #[.string (ai t.text)] w (aw [.v,.b] R):=by
 have su:=ok.su;have hszt:=ok.size;have hsh:=(mw su.ae).2.2;generalize hu:(num t e0 0).1=u at*;have hsz:u.size<=60:=by omega
 obtain⟨hthl,hol,hE3,hE2s,hE1s,hE0s⟩:=lens hsz;obtain⟨hn,hts⟩:=yc ok;have hlen:=su.two.len;have okt:Ok t:=IP ok.al ok.good;have okth:∀q∈t.ths,Ok q:=λq hq=>⟨(su.al q hq).wf,by rw [aX];have :=(hts q hq).2;omega⟩
 refine tC t.text w R ?_;refine qC okt (qZ okt ok.nr λv5 w6 x6 o5=>?_);have hv5:=o5.strs;obtain⟨a,cap,hv⟩:=hv5.slice;rw [O3]at hv;refine⟨a,_,cap,hv,λfine out x w'=>∃i:Nat,x=i/\i<=t.ths.length/\oD w6.heap.size w6 (.slice none 0 0) fine out w' ((List.range i).flatMap (E0 u)),λ _ _ x _=>(t.ths.length - x).toNat,⟨0,rfl,Ps _,⟨Gr.refl _ _,Own.nil _ _,rfl,OL _⟩⟩,λfine1 out1 x w15 hI=>?_⟩;obtain⟨i,rfl,hi,β⟩:=hI;have x15:Ex w6 w15:=β.gr.nil rfl;refine⟨λhlt=>?_,λhge=>?_⟩;rotate_left
 ·have hil:i=u.ths.length:=by simp only [OP]at hge;omega
  rw [hil]at β;have e:(List.range u.ths.length).flatMap (E0 u)=gZ u:=rfl;have hl:=hE0s _ (OL _);rw [e]at β hl;refine⟨λhf=>hR1 ?_ w15 (Ex.trans x6 x15),λhf=>HC β.ow.strs (by rw [zW];omega) λv2 w2 x2 o2=>hR2 _ ?_ v2 w2 (Ex.trans (Ex.trans x6 x15) x2) (o2.mono (Ex.trans x6 x15).size)⟩
  ·unfold qp;rw [OW];intro h;rw [<-β.fi]at h;rw [h]at hf;cases hf
  ·unfold qp;rw [Pd];rw [<-β.fi];simpa using hf
 have hi':i< t.ths.length:=by simp only [OQ]at hlt;omega
 have κ:i< u.ths.length:=by omega
 have hmi:=OK hi';have two1:=kf (su.two.get hi' κ);have hlo:=two1.len;have hacc1:=hE0s i (by omega);have ek:(List.range (i+1)).flatMap (E0 u)=(List.range i).flatMap (E0 u)++E0 u i:=by rw [RC,PX];simp
 have eE0:E0 u i=(offs u.ths[i]).flatMap (E1 u i):=by unfold E0;rw [cS κ]
 refine hv5.get x15 (i:=i) (x:=t.ths[i].text) (by omega) (by simp [hi']) (Q:=λn=>_) (oJ _ (OL _) (okth _ hmi) (su.smpP _ hmi) (by have :=(hts _ hmi).1;omega) λv21 w22 xs x22 o21 m21=>?_);have h22:=(β.ex x22).start;have n21:∀g,v21.ownBlock=some g->out1.ownBlock≠some g:=λg hg e=>by
  have h1:=(o21.block g hg).1;have h2:=β.lt g e;omega
 obtain⟨a23,cap23,hv21⟩:=o21.slice;have hm1:=@tN t.ths.length i (by omega);generalize hA:(List.range i).flatMap (E0 u)=A at*;have hol1:=hol i κ;have hE1i:=λj=>hE1s i j κ
 refine⟨a23,_,cap23,hv21,λfine out x w'=>∃j:Nat,x=j/\j<=(offs t.ths[i]).length/\oD w6.heap.size w22 out1 fine out w' (A++((offs u.ths[i]).take j).flatMap (E1 u i)),λ _ _ x _=>((offs t.ths[i]).length - x).toNat,⟨0,rfl,Ps _,by simpa using h22⟩,λfine2 μ x w31 hI=>?_⟩;obtain⟨j,rfl,hj,ν⟩:=hI;refine⟨λhlt2=>?_,λhge2=>?_⟩;rotate_left
 ·have hjl:j=(offs u.ths[i]).length:=by simp only [OP]at hge2;omega
  rw [hjl,O6,<-eE0,<-ek]at ν;exact⟨by omega,⟨i+1,by omega,by omega,(β.ex x22).back ν⟩,hm1⟩
 have hjP:j< (offs t.ths[i]).length:=by simp only [OQ]at hlt2;omega
 have hjU:j< (offs u.ths[i]).length:=by omega
 have hm2:(((offs t.ths[i]).length:Int) - ((j:Int)+1)).toNat< (((offs t.ths[i]).length:Int) - j).toNat:=by omega
 have hae:=two1.get hjP hjU;have hmP:=OK hjP;have hmU:=OK hjU;obtain⟨g,capg,cs,hvg,W,γ⟩:=tQ (o21.gr ν.gr n21) m21 hjP;obtain⟨kk,ca,cb,cs3,cq,rfl⟩:=W.any;have etk:((offs u.ths[i]).take (j+1)).flatMap (E1 u i)=((offs u.ths[i]).take j).flatMap (E1 u i)++E1 u i (offs u.ths[i])[j]:=by rw [OE hjU,PX];simp
 have hacc2:(A++((offs u.ths[i]).take j).flatMap (E1 u i)).length<=13000000+216000:=by
  rw [OG];have :=hE1i j;omega
 rw [hv21]at hvg;refine⟨g,0,_,capg,hv21.trans hvg,by omega,by omega,kk,ca,cb,cs3,cq,⟨γ 0 _ rfl _ (by omega) (by omega),γ 1 _ rfl _ (by omega) (by omega),γ 2 _ rfl _ (by omega) (by omega),γ 3 _ rfl _ (by omega) (by omega),γ 4 _ rfl _ (by omega) (by omega),trivial⟩,λδ w42 hb41 hw42=>?_⟩;obtain⟨box1,box2⟩:=LK (cs:=gg kk ca cb cs3 cq) rfl rfl hb41 hw42;refine⟨⟨rfl,uJ,box1⟩,λψ hw43=>?_⟩;obtain⟨x43,l43,ξ⟩:=box2 ψ hw43;have h43:=(ν.ex x43).start;have hnb:μ.ownBlock≠some δ:=λe=>by have :=ν.lt _ e;omega
 have x643:Ex w6 ψ:=Ex.trans ((β.gr.ex x22).trans ν.gr |>.nil rfl) x43;have hacc2':=hacc2;generalize hA2:A++((offs u.ths[i]).take j).flatMap (E1 u i)=A2 at*;have ο:∀{fn:Bool} {o:Value} {w':World},oD w6.heap.size ψ μ fn o w' (A2++E1 u i (offs u.ths[i])[j])->a7 ((j:Int)+1)/\(∃j':Nat,(j:Int)+1=j'/\j'<=(offs t.ths[i]).length/\oD w6.heap.size w22 out1 fn o w' (A++((offs u.ths[i]).take j').flatMap (E1 u i)))/\(((offs t.ths[i]).length:Int) - ((j:Int)+1)).toNat< (((offs t.ths[i]).length:Int) - j).toNat:=λ{fn o w'} h=>by
  refine⟨by omega,⟨j+1,by omega,by omega,(ν.ex x43).back ?_⟩,hm2⟩;rw [etk,<-Po,hA2];exact h
 generalize (offs t.ths[i])[j]=oP at*;generalize (offs u.ths[i])[j]=oU at*;cases oP<;>cases oU<;>try exact hae.elim
 ·
  rename_i p V;obtain⟨_,_,_,W⟩:=W;unfold gg at W;simp only [Px,P5,QH,Rj,QN]at W;have e1:kk=126:=O8.1 (by omega);have e2:cs3=p.text:=eP W.2.2.2.1;subst e1 e2;refine⟨λfn o w'=>oD w6.heap.size ψ μ fn o w' (A2++[MG u i V]),⟨126,ξ 0 (by omega),cZ rfl ?_⟩,λfn o w' h=>⟨126,?_,λ _=>ο h,(λh=>by cases h)⟩⟩
  ·exact LI ok su hi' κ hmP hmU hae (hv5.ex x643) l43 (ξ 3 (by omega)) h43 (by omega) λfn v' w' h=>h
  ·rw [h.gr.cell (a:=⟨δ,0,none⟩) l43 hnb];exact ξ 0 (by omega)
 ·
  rename_i ca' cb' p c d V;obtain⟨_,W⟩:=W;unfold gg at W;simp only [Px,P5,QH,Rj,QN]at W;have e1:kk=33:=O8.1 (by omega);have e2:cs3=p.text:=eP W.2.2.2.1;have e3:ca=ca':=O8.1 (by omega);have e4:cb=cb':=O8.1 (by omega);subst e1 e2 e3 e4;refine⟨λfn o w'=>oD w6.heap.size ψ μ fn o w' A2,⟨33,ξ 0 (by omega),aW (by decide) h43⟩,λfine3 ζ η H=>⟨33,?_,(λh=>by cases h),λ _=>?_⟩⟩
  ·rw [H.gr.cell (a:=⟨δ,0,none⟩) l43 hnb];exact ξ 0 (by omega)
  have r105:=H.start;have g105:Gr w6 (.slice none 0 0) η ζ:=(((β.gr.ex x22).trans ν.gr).ex x43).trans H.gr;have s43:=H.gr.size;have hnb3:ζ.ownBlock≠some δ:=λe=>(H.gr.2 _ e).elim hnb λe=>by omega
  have c105:∀j,j< 5->η.cell? ⟨δ,j,none⟩=(gg 33 ca cb p.text cq)[j]?:=λj hj=>by rw [H.gr.cell (a:=⟨δ,j,none⟩) l43 hnb];exact ξ j hj
  have hm3:∀k:Nat,k< t.ths.length->((t.ths.length:Int) - ((k:Int)+1)).toNat< ((t.ths.length:Int) - k).toNat:=λk hk=>by omega
  refine⟨a,_,cap,hv,λfine out x w'=>∃k:Nat,x=k/\k<=t.ths.length/\oD w6.heap.size η ζ fine out w' (A2++(List.range k).flatMap (E2 u i c d V)),λ _ _ x _=>(t.ths.length - x).toNat,⟨0,rfl,Ps _,by simpa using r105⟩,λfine4 φ x w115 hI=>?_⟩;obtain⟨k,rfl,hk,Z⟩:=hI;have g115:=g105.trans Z.gr;have x115:=g115.nil rfl;refine⟨λhlt3=>?_,λhge3=>?_⟩;rotate_left
  ·have hkl:k=u.ths.length:=by simp only [OP]at hge3;omega
   rw [hkl]at Z;exact ο (H.back Z)
  have ω:k< t.ths.length:=by simp only [OQ]at hlt3;omega
  have hkU:k< u.ths.length:=by omega
  have ek2:(List.range (k+1)).flatMap (E2 u i c d V)=(List.range k).flatMap (E2 u i c d V)++E2 u i c d V k:=by rw [RC,PX];simp
  refine hv5.get x115 (i:=k) (x:=t.ths[k].text) (by omega) (by simp [ω]) (Q:=λn=>_) ⟨λheq=>?_,λhne=>?_⟩
  ·have heq:i=k:=by simp only [OQ]at heq;omega
   refine⟨by omega,⟨k+1,by omega,by omega,?_⟩,hm3 k ω⟩;rw [ek2,show E2 u i c d V k=[] by unfold E2;rw [Pd heq],Ph];exact Z
  have hik:i≠k:=by simp only [OP]at hne;omega
  have hmk:=OK ω;have eE2:E2 u i c d V k=(offs u.ths[k]).flatMap (E3 u i k c d V):=by unfold E2;rw [OW hik,cS hkU]
  have two2:=kf (su.two.get ω hkU);have hlo2:=two2.len;refine oJ _ (OL _) (okth _ hmk) (su.smpP _ hmk) (by have :=(hts _ hmk).1;omega) λv121 w122 xs2 x122 o121 m121=>?_
  have h122:=(Z.ex x122).start;have n121:∀g,v121.ownBlock=some g->φ.ownBlock≠some g:=λg hg e=>by
   have h1:=(o121.block g hg).1;have h2:=Z.lt g e;omega
  obtain⟨a123,cap123,ς⟩:=o121.slice;have hacc3:(A2++(List.range k).flatMap (E2 u i c d V)).length<=13300000:=by
   have :=hE2s i c d V k (by omega);rw [OG];omega
  have hm3k:=hm3 k ω;have hnext3:∀{fn:Bool} {o:Value} {w':World},oD w6.heap.size w122 φ fn o w' ((A2++(List.range k).flatMap (E2 u i c d V))++E2 u i c d V k)->a7 ((k:Int)+1)/\(∃k':Nat,(k:Int)+1=k'/\k'<=t.ths.length/\oD w6.heap.size η ζ fn o w' (A2++(List.range k').flatMap (E2 u i c d V)))/\((t.ths.length:Int) - ((k:Int)+1)).toNat< ((t.ths.length:Int) - k).toNat:=λ{fn o w'} h=>by
   refine⟨by omega,⟨k+1,by omega,by omega,(Z.ex x122).back ?_⟩,hm3k⟩;rw [ek2,<-Po];exact h
  generalize hA3:A2++(List.range k).flatMap (E2 u i c d V)=A3 at*;refine⟨a123,_,cap123,ς,λfine out x w'=>∃l:Nat,x=l/\l<=(offs t.ths[k]).length/\oD w6.heap.size w122 φ fine out w' (A3++((offs u.ths[k]).take l).flatMap (E3 u i k c d V)),λ _ _ x _=>((offs t.ths[k]).length - x).toNat,⟨0,rfl,Ps _,by simpa using h122⟩,λfine5 out5 x w131 hI=>?_⟩;obtain⟨l,rfl,hl,θ⟩:=hI;refine⟨λhlt4=>?_,λhge4=>?_⟩;rotate_left
  ·have hll:l=(offs u.ths[k]).length:=by simp only [OP]at hge4;omega
   rw [hll,O6,<-eE2]at θ;exact hnext3 θ
  have hlP:l< (offs t.ths[k]).length:=by simp only [OQ]at hlt4;omega
  have hlU:l< (offs u.ths[k]).length:=by omega
  have hm4:(((offs t.ths[k]).length:Int) - ((l:Int)+1)).toNat< (((offs t.ths[k]).length:Int) - l).toNat:=by omega
  have har:=two2.get hlP hlU;have hrP:=OK hlP;have hrU:=OK hlU;obtain⟨g2,capg2,cs2,hvg2,G,J⟩:=tQ (o121.gr θ.gr n121) m121 hlP;obtain⟨kk2,ce,cx,cs4,cq2,rfl⟩:=G.any;have etk2:((offs u.ths[k]).take (l+1)).flatMap (E3 u i k c d V)=((offs u.ths[k]).take l).flatMap (E3 u i k c d V)++E3 u i k c d V (offs u.ths[k])[l]:=by rw [OE hlU,PX];simp
  have hol2:=hol k hkU;have hacc4:(A3++((offs u.ths[k]).take l).flatMap (E3 u i k c d V)).length<=13400000:=by
   have :=hE3 i k c d V ((offs u.ths[k]).take l) (by rw [Pm];omega);rw [OG];omega
  rw [ς]at hvg2;refine⟨g2,0,_,capg2,ς.trans hvg2,by omega,by omega,kk2,ce,cx,cs4,cq2,⟨J 0 _ rfl _ (by omega) (by omega),J 1 _ rfl _ (by omega) (by omega),J 2 _ rfl _ (by omega) (by omega),J 3 _ rfl _ (by omega) (by omega),J 4 _ rfl _ (by omega) (by omega),trivial⟩,λb141 w142 hb141 hw142=>?_⟩;obtain⟨box3,box4⟩:=LK (cs:=gg kk2 ce cx cs4 cq2) rfl rfl hb141 hw142;refine⟨⟨rfl,uJ,box3⟩,λι hw143=>?_⟩;obtain⟨x143,l143,ε⟩:=box4 ι hw143;have χ:=(θ.ex x143).start;have g143:Gr η ζ ι out5:=((Z.gr.ex x122).trans θ.gr).ex x143;have x6143:Ex w6 ι:=(g105.trans g143).nil rfl;have υ:∀j,j< 5->ι.cell? ⟨δ,j,none⟩=(gg 33 ca cb p.text cq)[j]?:=λj hj=>by rw [g143.cell (a:=⟨δ,j,none⟩) (by show δ< _;omega) hnb3];exact c105 j hj
  have hb143:δ< ι.heap.size:=by have :=g143.size;omega
  generalize hA4:A3++((offs u.ths[k]).take l).flatMap (E3 u i k c d V)=A4 at*;have α:∀{fn:Bool} {o:Value} {w':World},oD w6.heap.size ι out5 fn o w' (A4++E3 u i k c d V (offs u.ths[k])[l])->a7 ((l:Int)+1)/\(∃l':Nat,(l:Int)+1=l'/\l'<=(offs t.ths[k]).length/\oD w6.heap.size w122 φ fn o w' (A3++((offs u.ths[k]).take l').flatMap (E3 u i k c d V)))/\(((offs t.ths[k]).length:Int) - ((l:Int)+1)).toNat< (((offs t.ths[k]).length:Int) - l).toNat:=λ{fn o w'} h=>by
   refine⟨by omega,⟨l+1,by omega,by omega,(θ.ex x143).back ?_⟩,hm4⟩;rw [etk2,<-Po,hA4];exact h
  have frc:∃q∈u.ths,q.Fr c:=⟨_,OK κ,(aY (su.smp _ (OK κ)) _ hmU).1.fr c (.inl rfl)⟩
  generalize (offs t.ths[k])[l]=rP at*;generalize (offs u.ths[k])[l]=rU at*;cases rP<;>cases rU<;>try exact har.elim
  ·obtain⟨_,_,_,G⟩:=G;unfold gg at G;simp only [Px,P5,QH,Rj,QN]at G;have e1:kk2=126:=O8.1 (by omega);subst e1;exact⟨126,ε 0 (by omega),(λh=>by cases h),λ _=>α (by simpa [E3]using χ)⟩
  ·obtain⟨_,G⟩:=G;unfold gg at G;simp only [Px,P5,QH,Rj,QN]at G;have e1:kk2=33:=O8.1 (by omega);subst e1;exact⟨33,ε 0 (by omega),(λh=>by cases h),λ _=>α (by simpa [E3]using χ)⟩
  ·rename_i e x q s e' x' q' s';unfold vR gg at G;simp only [Px,P5,QH,Value.bool.injEq,Rj,QN]at G;have e1:kk2=63:=O8.1 (by omega);have e2:cs4=q.text:=eP G.2.2.2.1;have e3:ce=e:=O8.1 (by omega);have e4:cx=x:=O8.1 (by omega);have e5:cq2=s:=G.2.2.2.2;subst e1 e2 e3 e4 e5;have fre:∃q∈u.ths,q.Fr e':=⟨_,OK hkU,(aY (su.smp _ (OK hkU)) _ hrU).1.fr e' (.inl rfl)⟩
   have hae1:ca=asg u.frL t.frL ρ0 c:=O8.1 hae.1;have har1:ce=asg u.frL t.frL ρ0 e':=O8.1 har.1;refine⟨63,ε 0 (by omega),λ _=>⟨ce,ε 1 (by omega),ca,υ 1 (by omega),λhne=>α ?_,λheq=>?_⟩,(λh=>by cases h)⟩
   ·have hne:ce≠ca:=by simpa using hne
    have:¬e'=c:=λh=>hne (by rw [har1,hae1,h])
    rw [show E3 u i k c d V (.rcv e' x' q' s')=[] by unfold E3;simp only;rw [OW this],Ph];exact χ
   ·have heq:ce=ca:=by simpa using heq
    have hec:e'=c:=su.inj fre frc (by rw [<-har1,<-hae1,heq]);refine Jj ok su hi' κ ω hkU hik hmP hmU hae hrP hrU har (hv5.ex x6143) hb143 l143 (υ 2 (by omega)) (υ 3 (by omega)) (ε 2 (by omega)) (ε 3 (by omega)) (ε 4 (by omega)) χ (by omega) λfn v' w' h=>α ?_
    rw [show E3 u i k c d V (.rcv e' x' q' s')=[Gd u i k V (q'.map (Ff (NN u) q' x' d)) s'] by unfold E3;simp only;rw [Pd hec]];exact h
 ·
  rename_i ca' cb' p s c d V s';unfold vR gg at W;simp only [Px,P5,QH,Rj,QN]at W;have e1:kk=63:=O8.1 (by omega);subst e1;refine⟨λfn o w'=>oD w6.heap.size ψ μ fn o w' A2,⟨63,ξ 0 (by omega),aW (by decide) h43⟩,λfine3 ζ η H=>⟨63,?_,λ _=>ο ?_,(λh=>by cases h)⟩⟩
  ·rw [H.gr.cell (a:=⟨δ,0,none⟩) l43 hnb];exact ξ 0 (by omega)
  ·simpa [E1]using H
theorem jv {w:World}{v:Value}{l:List Tx}{x:Tx}(h:Strs w v l)(hl:l.length<=1000000000){R:Int->Sg}(hR:∀i:Int,(i< 0↔x∉l)->(0<=i->∃h:i.toNat< l.length,l[i.toNat]=x)->R i w):
  Sh 60 #[v,.string (ai x)] w (aw [.i] R):=by
 refine rD v x w R ?_;dsimp only [go_sem];dsimp only [go_sem,UInt8.reduceOfNat,UInt32.reduceOfNat,Nat.reduceAdd];obtain⟨a,cap,W⟩:=h.slice;refine⟨a,_,cap,W,λi w'=>w'=w/\∃k:Nat,i=k/\k<=l.length/\x∉l.take k,λi _=>((l.length:Int) - i).toNat,⟨rfl,0,rfl,Ps _,by simp⟩,λi w' Z=>?_⟩;obtain⟨rfl,k,rfl,hk,hm⟩:=Z;refine⟨λJ=>?_,λV=>?_⟩
 ·have G:=oL J;refine h.get (Ex.refl _) (i:=k) (x:=l[k]) (by omega) (by simp [G]) (Q:=λn=>_) ⟨λhe=>hR k ?_ λ _=>⟨G,by simpa using he⟩,λH=>⟨by omega,⟨rfl,k+1,by omega,G,?_⟩,by dsimp only;omega⟩⟩
  ·have he:l[k]=x:=by simpa using he
   exact⟨λh=>by omega,λh=>absurd (he▸OK G) h⟩
  ·have H:l[k]≠x:=by simpa using H
   rw [OE G,OM,OJ];exact λh=>h.elim hm λe=>H e.symm
 ·have:k=l.length:=by simp only [OP]at V;omega
  rw [this,O6]at hm;exact hR (-1) ⟨λ _=>hm,λ _=>by omega⟩ λh=>by omega
theorem vB {B b k:Nat}{w w1 w2:World}{v v':Value}(J:b< w.heap.size)(hb:B<=b)(hB:B<=w.heap.size)(Z:∀g,v.ownBlock=some g->B<=g/\g< w.heap.size/\g≠b)(hc:∃u,w.cell? ⟨b,k,none⟩=some u)(hf:∀j,w.frozen? ⟨b,j,none⟩=false)(x:Ex w w1)(hg:w1.grownBy w2 v.ownBlock):
  ((∃u,w2.cell? ⟨b,k,none⟩=some u)/\w2.frozen? ⟨b,k,none⟩=false)/\∀w',w'=w2.setCell ⟨b,k,none⟩ v'->w'.cell? ⟨b,k,none⟩=some v'/\(∀j,j≠k->w'.cell? ⟨b,j,none⟩=w.cell? ⟨b,j,none⟩)/\(∀j,w'.frozen? ⟨b,j,none⟩=false)/\Kp w w' (λg=>v.ownBlock=some g\/g=b)/\Below B w w'/\Kp w2 w' (λg=>g=b):=by
 have G:Kp w1 w2 λg=>v.ownBlock=some g:=Kp.aK hg λ _ h=>h
 have s1:=x.size;have V:=G.block b (by omega) λe=>(Z b e).2.2 rfl
 obtain⟨u,hu⟩:=hc;have c2:∀j,w2.cell? ⟨b,j,none⟩=w.cell? ⟨b,j,none⟩:=λj=>by rw [OB (w:=w1) V,x.cell (a:=⟨b,j,none⟩) J]
 have f2:∀j,w2.frozen? ⟨b,j,none⟩=false:=λj=>by rw [O7 (w:=w1) V,PO x J];exact hf j
 have h2:w2.cell? ⟨b,k,none⟩=some u:=(c2 k).trans hu;refine⟨⟨⟨u,h2⟩,f2 k⟩,λw' H=>?_⟩;have kr:Kp w2 w' (λg=>g=b):=H▸Kr.set w2 k v';have sk:=G.size;refine⟨by rw [H];exact OT _ _ _ h2,λj hj=>?_,λj=>by rw [H,OV];exact f2 j,?_,?_,kr⟩
 ·rw [H,OF _ _ _ _ (λe=>by injection e with e1 V;exact hj V.symm)];exact c2 j
 ·exact Kp.trans (Kp.trans (Kp.af x _) (Kp.mono (λ _ h=> .inl h) G) λ _ _ h=>h) kr λ _ _ h=> .inr h
 ·exact Qm (Qm (Rx x hB) (Kp.below G (by omega) λg W e=>by have :=(Z g e).1;omega)) (Kp.below kr (by omega) λg W e=>by omega)
abbrev tX:Nat:=25
abbrev tI:Nat:=3
structure rz (B b:Nat)(w:World)(va vn vx:Value)(all:List Tx)(ns:List Nat)(vs:List Value)(L:Nat->Prop):Prop where
 lb:B<=b
 lt:b< w.heap.size
 f:∀j,w.frozen? ⟨b,j,none⟩=false
 c0:w.cell? ⟨b,0,none⟩=some va
 c1:w.cell? ⟨b,1,none⟩=some vn
 c2:w.cell? ⟨b,2,none⟩=some vx
 a:Own B w va all
 n:aF tI B w vn (ns.map iv)
 x:aF tX B w vx vs
 da:∀g,va.ownBlock=some g->g≠b/\vn.ownBlock≠some g/\vx.ownBlock≠some g/\¬L g
 dn:∀g,vn.ownBlock=some g->g≠b/\vx.ownBlock≠some g/\¬L g
 dx:∀g,vx.ownBlock=some g->g≠b/\¬L g
 ml:∀g,L g->B<=g/\g< w.heap.size/\g≠b
 ls:∀j (h:j< vs.length),∃h':j< all.length,∃l,sM all[j]=some l/\Strs w vs[j] l/\∀g,vs[j].ownBlock=some g->L g
section
variable {B b:Nat} {w w':World} {va vn vx:Value} {all:List Tx} {ns:List Nat} {vs:List Value} {L:Nat->Prop}
theorem aF.ex {e:Nat}{v:Value}{l:List Value}(h:aF e B w v l)(x:Ex w w'):aF e B w' v l:=h.kp (Kp.af x λ _=>False) λ _ _ h=>h
theorem rz.ex (h:rz B b w va vn vx all ns vs L)(x:Ex w w'):rz B b w' va vn vx all ns vs L:=by
 have s:=x.size;have c:∀j,w'.cell? ⟨b,j,none⟩=w.cell? ⟨b,j,none⟩:=λj=>x.cell (a:=⟨b,j,none⟩) h.lt
 refine⟨h.lb,by have :=h.lt;omega,λj=>by rw [PO x h.lt];exact h.f j,by rw [c];exact h.c0,by rw [c];exact h.c1,by rw [c];exact h.c2,h.a.ex x,h.n.ex x,h.x.ex x,h.da,h.dn,h.dx,λg G=>⟨(h.ml g G).1,by have :=(h.ml g G).2.1;omega,(h.ml g G).2.2⟩,λj hj=>?_⟩;obtain⟨H,l,h2,J,h4⟩:=h.ls j hj;exact⟨H,l,h2,J.ex x,h4⟩
theorem Strs.zI {v:Value}{l:List Tx}{S:Nat->Prop}(h:Strs w v l)(k:Kp w w' S)(G:∀g,v.ownBlock=some g->¬S g):Strs w' v l:=h.kp k λb _ _ _ e=>G b (uW e)
theorem rz.KQ (h:rz B b w va vn vx all ns vs L)(hB:B<=w.heap.size){s:Tx}{w1 w2:World}(x:Ex w w1){v':Value}(ho:Own B w2 v' (all++[s]))(G:w1.grownBy w2 va.ownBlock)(hn:∀g,v'.ownBlock=some g->va.ownBlock=some g\/w1.heap.size<=g):
  ((∃u,w2.cell? ⟨b,0,none⟩=some u)/\w2.frozen? ⟨b,0,none⟩=false)/\∀w',w'=w2.setCell ⟨b,0,none⟩ v'->rz B b w' v' vn vx (all++[s]) ns vs L/\Below B w w':=by
 obtain⟨V,h2⟩:=vB (v':=v') h.lt h.lb hB (λg G=>⟨(h.a.block g G).1,(h.a.block g G).2,(h.da g G).1⟩) ⟨_,h.c0⟩ h.f x G;refine⟨V,λw' W=>?_⟩;obtain⟨k1,Z,k3,J,k5,k6⟩:=h2 w' W;have sx:=x.size;have sk:=J.size;have α:=h.lt;have dv:∀g,v'.ownBlock=some g->g≠b/\vn.ownBlock≠some g/\vx.ownBlock≠some g/\¬L g:=λg G=>(hn g G).elim (h.da g) λe=>⟨by omega,λH=>by have :=(h.n.block g H).2;omega,λH=>by have :=(h.x.block g H).2;omega,λH=>by have :=(h.ml g H).2.1;omega⟩
 refine⟨⟨h.lb,by omega,k3,k1,(Z 1 (by omega)).trans h.c1,(Z 2 (by omega)).trans h.c2,ho.kp k6 λg G=>(dv g G).1,h.n.kp J λg G e=>e.elim (λe=>(h.da g e).2.1 G) (h.dn g G).1,h.x.kp J λg G e=>e.elim (λe=>(h.da g e).2.2.1 G) (h.dx g G).1,dv,h.dn,h.dx,λg G=>⟨(h.ml g G).1,by have :=(h.ml g G).2.1;omega,(h.ml g G).2.2⟩,λj hj=>?_⟩,k5⟩;obtain⟨V,l,h2,h3,h4⟩:=h.ls j hj;exact⟨by rw [OG];omega,l,by rw [P2 V];exact h2,h3.zI J λg G e=>e.elim (λe=>(h.da g e).2.2.2 (h4 g G)) (h.ml g (h4 g G)).2.2,h4⟩
theorem rz.KK (h:rz B b w va vn vx all ns vs L)(hB:B<=w.heap.size){m:Nat}{w1 w2:World}(x:Ex w w1){v':Value}(ho:aF tI B w2 v' ((ns++[m]).map iv))(G:w1.grownBy w2 vn.ownBlock)(Z:∀g,v'.ownBlock=some g->vn.ownBlock=some g\/w1.heap.size<=g):
  ((∃u,w2.cell? ⟨b,1,none⟩=some u)/\w2.frozen? ⟨b,1,none⟩=false)/\∀w',w'=w2.setCell ⟨b,1,none⟩ v'->rz B b w' va v' vx all (ns++[m]) vs L/\Below B w w':=by
 obtain⟨J,h2⟩:=vB (v':=v') h.lt h.lb hB (λg G=>⟨(h.n.block g G).1,(h.n.block g G).2,(h.dn g G).1⟩) ⟨_,h.c1⟩ h.f x G;refine⟨J,λw' V=>?_⟩;obtain⟨k1,k2,k3,H,k5,k6⟩:=h2 w' V;have sx:=x.size;have sk:=H.size;have α:=h.lt;have dv:∀g,v'.ownBlock=some g->g≠b/\vx.ownBlock≠some g/\¬L g:=λg G=>(Z g G).elim (h.dn g) λe=>⟨by omega,λW=>by have :=(h.x.block g W).2;omega,λW=>by have :=(h.ml g W).2.1;omega⟩
 refine⟨⟨h.lb,by omega,k3,(k2 0 (by omega)).trans h.c0,k1,(k2 2 (by omega)).trans h.c2,h.a.kp H λg G e=>e.elim (λe=>(h.da g G).2.1 e) (h.da g G).1,ho.kp k6 λg G=>(dv g G).1,h.x.kp H λg G e=>e.elim (λe=>(h.dn g e).2.1 G) (h.dx g G).1,λg G=>⟨(h.da g G).1,λe=>(Z g e).elim (h.da g G).2.1 λe=>by have :=(h.a.block g G).2;omega,(h.da g G).2.2⟩,dv,h.dx,λg G=>⟨(h.ml g G).1,by have :=(h.ml g G).2.1;omega,(h.ml g G).2.2⟩,λj hj=>?_⟩,k5⟩;obtain⟨J,l,h2,h3,h4⟩:=h.ls j hj;exact⟨J,l,h2,h3.zI H λg G e=>e.elim (λe=>(h.dn g e).2.2 (h4 g G)) (h.ml g (h4 g G)).2.2,h4⟩
theorem rz.MU (h:rz B b w va vn vx all ns vs L)(hB:B<=w.heap.size){w0 w1 w2:World}(x0:Ex w w0)(x:Ex w0 w1){v v':Value}{l:List Tx}(hl:vs.length< all.length)(Z:sM all[vs.length]=some l)(hs:Strs w0 v l)(J:∀g,v.ownBlock=some g->w.heap.size<=g/\g< w0.heap.size)(ho:aF tX B w2 v' (vs++[v]))(G:w1.grownBy w2 vx.ownBlock)(hn:∀g,v'.ownBlock=some g->vx.ownBlock=some g\/w1.heap.size<=g):
  ((∃u,w2.cell? ⟨b,2,none⟩=some u)/\w2.frozen? ⟨b,2,none⟩=false)/\∀w',w'=w2.setCell ⟨b,2,none⟩ v'->rz B b w' va vn v' all ns (vs++[v]) (λg=>L g\/v.ownBlock=some g)/\Below B w w':=by
 obtain⟨h1,h2⟩:=vB (v':=v') h.lt h.lb hB (λg G=>⟨(h.x.block g G).1,(h.x.block g G).2,(h.dx g G).1⟩) ⟨_,h.c2⟩ h.f (Ex.trans x0 x) G;refine⟨h1,λw' α=>?_⟩;obtain⟨k1,k2,k3,W,k5,k6⟩:=h2 w' α;have γ:=x0.size;have sx:=x.size;have sk:=W.size;have s2:=G.size;have s6:=k6.size;have δ:=h.lt;have dv:∀g,v'.ownBlock=some g->g≠b/\¬(L g\/v.ownBlock=some g):=λg G=>(hn g G).elim (λe=>⟨(h.dx g e).1,λH=>H.elim (h.dx g e).2 λH=>by have :=(J g H).1;have :=(h.x.block g e).2;omega⟩) λe=>⟨by omega,λH=>H.elim (λH=>by have :=(h.ml g H).2.1;omega) λH=>by have :=(J g H).2;omega⟩
 refine⟨⟨h.lb,by omega,k3,(k2 0 (by omega)).trans h.c0,(k2 1 (by omega)).trans h.c1,k1,h.a.kp W λg G e=>e.elim (λe=>(h.da g G).2.2.1 e) (h.da g G).1,h.n.kp W λg G e=>e.elim (λe=>(h.dn g G).2.1 e) (h.dn g G).1,ho.kp k6 λg G=>(dv g G).1,λg G=>⟨(h.da g G).1,(h.da g G).2.1,λe=>(hn g e).elim (h.da g G).2.2.1 λe=>by have :=(h.a.block g G).2;omega,λe=>e.elim (h.da g G).2.2.2 λe=>by have :=(J g e).1;have :=(h.a.block g G).2;omega⟩,
  λg G=>⟨(h.dn g G).1,λe=>(hn g e).elim (h.dn g G).2.1 λe=>by have :=(h.n.block g G).2;omega,λe=>e.elim (h.dn g G).2.2 λe=>by have :=(J g e).1;have :=(h.n.block g G).2;omega⟩,dv,λg G=>G.elim (λG=>⟨(h.ml g G).1,by have :=(h.ml g G).2.1;omega,(h.ml g G).2.2⟩) λG=>by have :=J g G;exact⟨by omega,by omega,by omega⟩,λj hj=>?_⟩,k5⟩
 rw [OG,P0]at hj;by_cases V:j< vs.length
 ·obtain⟨h1,l',h2,h3,h4⟩:=h.ls j V;rw [P2 V];exact⟨h1,l',h2,h3.zI W λg G e=>e.elim (λe=>(h.dx g e).2 (h4 g G)) (h.ml g (h4 g G)).2.2,λg G=> .inl (h4 g G)⟩
 ·have:j=vs.length:=by omega
  subst this;rw [QA (OL _)];simp only [Sd,QO];have β:Kp w0 w' λg=>vx.ownBlock=some g\/g=b:=Kp.trans (Kp.trans (Kp.af x _) (Kp.mono (λ _ h=> .inl h) (Kp.aK G λ _ h=>h)) λ _ _ h=>h) k6 λ _ _ h=> .inr h
  refine⟨hl,l,Z,hs.zI β λg G e=>?_,λg G=> .inr G⟩;have h3:=(J g G).1;exact e.elim (λe=>by have :=(h.x.block g e).2;omega) λe=>by omega
end
theorem AT {w w':World}(x:Ex w w'):w.grownBy w' none:=⟨x.os,x.tape,x.output,x.size,λg G _=>x.block g G⟩
def MW (w:World)(b2 b4:Nat)(q:Bool)(R:Value->Bool->Sg):Prop:=
 ∃v162:Value,∃H:Value,∃v164:Value,(World.cell? w ⟨b4,0,none⟩=some v162/\World.cell? w ⟨b4,1,none⟩=some H/\World.cell? w ⟨b4,2,none⟩=some v164/\True)/\(List.length [v162,H,v164]=3/\List.all [v162,H,v164] ay=true/\∀j,j< 3->(∃u,World.cell? w ⟨b2,0+j,none⟩=some u)/\World.frozen? w ⟨b2,0+j,none⟩=false)/\
  ∀G:World,G=World.setCells w b2 0 [v162,H,v164]->∃J:Value,∃V:Value,∃W:Value,(World.cell? G ⟨b2,0,none⟩=some J/\World.cell? G ⟨b2,1,none⟩=some V/\World.cell? G ⟨b2,2,none⟩=some W/\True)/\R ((Value.agg #[J,V,W])) q G
section
variable {B b:Nat} {w w':World} {va vn vx:Value} {all:List Tx} {ns:List Nat} {vs:List Value} {L:Nat->Prop}
theorem rz.kp (h:rz B b w va vn vx all ns vs L)(k:Kp w w' λg=>g< B):rz B b w' va vn vx all ns vs L:=by
 have s:=k.size;have hb:=h.lb;have e:=k.block b h.lt (by omega);refine⟨h.lb,by have :=h.lt;omega,λj=>by rw [O7 (w:=w) e];exact h.f j,by rw [OB (w:=w) e];exact h.c0,by rw [OB (w:=w) e];exact h.c1,by rw [OB (w:=w) e];exact h.c2,h.a.kp k λg G e=>by have :=(h.a.block g G).1;omega,h.n.kp k λg G e=>by have :=(h.n.block g G).1;omega,h.x.kp k λg G e=>by have :=(h.x.block g G).1;omega,h.da,h.dn,h.dx,λg G=>⟨(h.ml g G).1,by have :=(h.ml g G).2.1;omega,(h.ml g G).2.2⟩,λj hj=>?_⟩;obtain⟨H,l,h2,J,h4⟩:=h.ls j hj;exact⟨H,l,h2,J.zI k λg G e=>by have :=(h.ml g (h4 g G)).1;omega,h4⟩
theorem rz.Cc (h:rz B b w va vn vx all ns vs L):ay va=true/\ay vn=true/\ay vx=true:=⟨h.a.dh,h.n.dh,h.x.dh⟩
theorem IM (h:rz B b w va vn vx all ns vs L){b2:Nat}(J:b2< B)(hc:∀j,j< 3->(∃u,w.cell? ⟨b2,j,none⟩=some u)/\w.frozen? ⟨b2,j,none⟩=false){q:Bool}{R:Value->Bool->Sg}(hR:∀w',Kp w w' (λg=>g=b2)->rz B b w' va vn vx all ns vs L->R (.agg #[va,vn,vx]) q w'):MW w b2 b q R:=by
 obtain⟨V,W,Z⟩:=h.Cc;refine⟨va,vn,vx,⟨h.c0,h.c1,h.c2,trivial⟩,⟨rfl,by simp [V,W,Z],λj hj=>by rw [Pa];exact hc j hj⟩,λw1 H=>?_⟩;obtain⟨k,_,_,G⟩:=aJ (b:=b2) [va,vn,vx] w 0;rw [<-H]at k G;have G:=λj (hj:j< 3)=>G j (λi hi=>by rw [Pa];exact(hc i hi).1) hj
 simp only [Pa]at G;exact⟨va,vn,vx,⟨G 0 (by omega),G 1 (by omega),G 2 (by omega),trivial⟩,hR w1 k (h.kp (Kp.mono (λg e=>by omega) k))⟩
end
def NR (w:World)(v src:Value)(K:Value->Sg):Prop:=
 ∃(base n m:Nat) (xs news:List Value),World.ownsRow w base tI 1 v n xs/\base<=Array.size (World.heap w)/\dY w src m 1 news/\(n+m<=maxLen/\(n+m)* 8<=140737488355328)/\
  ∀(v':Value) (w':World),World.ownsRow w' base tI 1 v' (n+m) (xs++news)->World.grownBy w w' (Value.ownBlock v)->(∀b:Nat,Value.ownBlock v'=some b->Value.ownBlock v=some b\/Array.size (World.heap w)<=b)->K v' w'
theorem KV {e B by_:Nat}{w:World}{v:Value}{l:List Value}(h:aF e B w v l)(hB:B<=w.heap.size){x:Value}{m:List Value}(H:dY w x m.length 1 m)(G:by_<=48)(J:l.length+m.length<=1099511627776){K:Value->Sg}
  (V:∀v' w',aF e B w' v' (l++m)->w.grownBy w' v.ownBlock->(∀b,v'.ownBlock=some b->v.ownBlock=some b\/w.heap.size<=b)->K v' w'):
  ∃(base n k:Nat) (xs news:List Value),World.ownsRow w base e 1 v n xs/\base<=Array.size (World.heap w)/\dY w x k 1 news/\(n+k<=maxLen/\(n+k)* by_<=140737488355328)/\
   ∀(v':Value) (w':World),World.ownsRow w' base e 1 v' (n+k) (xs++news)->World.grownBy w w' (Value.ownBlock v)->(∀b:Nat,Value.ownBlock v'=some b->Value.ownBlock v=some b\/Array.size (World.heap w)<=b)->K v' w':=by
 refine⟨B,l.length,m.length,l,m,h,hB,H,⟨by unfold maxLen;omega,?_⟩,λv' w' W Z hw=>V v' w' ?_ Z hw⟩
 ·have:(l.length+m.length)* by_<=1099511627776* 48:=RO J G;omega
 ·unfold aF;rw [OG];exact W
theorem En {e:Nat}{w w':World}{b:Nat}{x:Value}(G:ay x=true)(hb:b=w.heap.size)(h:w'=w.alloc (.cells #[x] e)):dY w' (.slice (some ⟨b,0,none⟩) 1 1) [x].length 1 [x]:=by
 subst hb h;refine⟨rfl,by simp [G],.inr ⟨_,0,1,rfl,λj u hu=>?_⟩⟩;rw [Pa];refine aa ?_
 match j,hu with
 | 0,hu=>simpa using hu
 | j+1,hu=>simp at hu
theorem Fc {s:Tx}{w:World}{R:Value->Bool->Sg}(hR1:aV s=none->∀a b c w',ay a=true->ay b=true->ay c=true->Ex w w'->R (.agg #[a,b,c]) false w')
  (hR2:∀n0 all,bX s=some n0->aV s=some all->(∀x∈all,St x)->all.length<=60->∀B b va vn vx ns vs L w',Ex w w'->w.heap.size<=B->rz B b w' va vn vx all ns vs L->vs.length=all.length->R (.agg #[va,vn,vx]) true w'):
  Sh 54 #[.string (ai s)] w (aw [.v,.b] R):=by
 refine sd s w R ?_;intro b2 w3 hb2 hw3 b4 Z hb4 hw5;have x3:Ex w w3:=hw3▸Ex.alloc w _;have x5:Ex w3 Z:=hw5▸Ex.alloc w3 _;have s3:w3.heap.size=w.heap.size+1:=by rw [hw3,size_alloc]
 have s5:Z.heap.size=w3.heap.size+1:=by rw [hw5,size_alloc]
 have c2:∀j,j< 3->(∃u,Z.cell? ⟨b2,j,none⟩=some u)/\Z.frozen? ⟨b2,j,none⟩=false:=λj hj=>by
  refine⟨?_,by rw [PO x5 (show b2< _ by omega),hw3,hb2];exact aG _ _ _ _⟩;rw [x5.cell (a:=⟨b2,j,none⟩) (show b2< _ by omega),hw3,hb2]
  match j,hj with
  | 0,_=>exact⟨_,aa rfl⟩
  | 1,_=>exact⟨_,aa rfl⟩
  | 2,_=>exact⟨_,aa rfl⟩
 have c4:∀j,j< 3->∃u,Z.cell? ⟨b4,0+j,none⟩=some u:=λj hj=>by
  rw [hw5,hb4,Pa]
  match j,hj with
  | 0,_=>exact⟨_,aa rfl⟩
  | 1,_=>exact⟨_,aa rfl⟩
  | 2,_=>exact⟨_,aa rfl⟩
 have f4:∀j,Z.frozen? ⟨b4,j,none⟩=false:=λj=>by rw [hw5,hb4];exact aG _ _ _ _
 refine⟨⟨rfl,rfl,λj hj=>⟨c4 j hj,by rw [Pa];exact f4 j⟩⟩,λw6 hw6=>?_⟩;obtain⟨k6,k6f,_,sc⟩:=aJ (b:=b4) [Value.slice none 0 0,.slice none 0 0,.slice none 0 0] Z 0;rw [<-hw6]at k6 k6f sc;have sc:=λj (hj:j< 3)=>sc j c4 hj
 simp only [Pa]at sc;have s6:=k6.size;have h6:rz b4 b4 w6 (.slice none 0 0) (.slice none 0 0) (.slice none 0 0) [] [] [] λ _=>False:=
  ⟨OL _,by omega,λj=>by rw [k6f];exact f4 j,sc 0 (by omega),sc 1 (by omega),sc 2 (by omega),Own.nil _ _,aF.nil _ _ _,aF.nil _ _ _,(λg hg=>by cases hg),(λg hg=>by cases hg),(λg hg=>by cases hg),λg hg=>hg.elim,λj hj=>by simp at hj⟩
 have b56:Below b4 Z w6:=Kp.below k6 (by omega) λg hg e=>by omega
 have x05:Ex w Z:=Ex.trans x3 x5;have cb2:∀{w':World},Below b4 Z w'->∀j,j< 3->(∃u,w'.cell? ⟨b2,j,none⟩=some u)/\w'.frozen? ⟨b2,j,none⟩=false:=λ{w'} k j hj=>by
  have e:=k.block b2 (by omega);obtain⟨⟨u,h1⟩,h2⟩:=c2 j hj;exact⟨⟨u,by rw [OB (w:=Z) e];exact h1⟩,by rw [O7 (w:=Z) e];exact h2⟩
 have toEx:∀{w' w2:World},Below b4 Z w'->Kp w' w2 (λg=>g=b2)->Ex w w2:=λ{w' w2} k k2=>by
  have :=k.size;exact Ex.below (Ex.below x05 (Rx k (by omega))) (Kp.below k2 (by omega) λg hg e=>by omega)
 have bad:aV s=none->∀{w':World} {va vn vx:Value} {all:List Tx} {ns:List Nat} {vs:List Value} {L:Nat->Prop},Below b4 Z w'->rz b4 b4 w' va vn vx all ns vs L->MW w' b2 b4 false R:=λhn {w' va vn vx all ns vs L} k h=>
  IM h (by omega) (cb2 k) λw2 k2 h2=>hR1 hn _ _ _ w2 h2.Cc.1 h2.Cc.2.1 h2.Cc.2.2 (toEx k k2)
 refine jf λw9 x9=>⟨λn0 hst=>⟨(λh=>by cases h),λ _=>?_⟩,λhst=>⟨λ _=>bad (by unfold aV;rw [hst];rfl) (Qm b56 (Rx x9 (by omega))) (h6.ex x9),(λh=>by cases h)⟩⟩
 have hg:aV s=bfs 62 [n0] 0:=by unfold aV;rw [hst];rfl
 have hst0:=jz hst;have s9:=x9.size;have h9:=h6.ex x9;have b9:Below b4 Z w9:=Qm b56 (Rx x9 (by omega));intro b17 w18 hb17 hw18;have x18:Ex w9 w18:=hw18▸Ex.alloc w9 _;have o18:Own b4 w18 (.slice (some ⟨b17,0,none⟩) 1 1) ([]++[n0]):=Own.one (by omega) hb17 hw18;obtain⟨f18,g18⟩:=h9.KQ (by omega) (Ex.refl w9) o18 (AT x18) λg hg=> .inr (by have:b17=g:=Pu hg;omega)
 refine⟨rfl,f18,λw20 hw20=>?_⟩;obtain⟨h20,b20⟩:=g18 w20 hw20;intro b21 w22 hb21 hw22;have x22:Ex w20 w22:=hw22▸Ex.alloc w20 _;have s20:=b20.size;have o22:aF tI b4 w22 (.slice (some ⟨b21,0,none⟩) 1 1) (([]++[0]).map iv):=aF.one (by omega) hb21 hw22;obtain⟨f22,g22⟩:=h20.KK (m:=0) (by omega) (Ex.refl w20) o22 (AT x22) λg hg=> .inr (by have:b21=g:=Pu hg;omega)
 refine⟨rfl,f22,λw24 hw24=>?_⟩;obtain⟨h24,b24⟩:=g22 w24 hw24;have bb24:Below b4 Z w24:=Qm b9 (Qm b20 b24);rw [hg]at hR1 hR2 bad;refine⟨λx w'=>∃(i:Nat) (all:List Tx) (va vn vx:Value) (ns:List Nat) (vs:List Value) (L:Nat->Prop),x=i/\i<=all.length/\all.length<=60/\(∀y∈all,St y)/\bfs (62 - i) all i=bfs 62 [n0] 0/\Below b4 Z w'/\rz b4 b4 w' va vn vx all ns vs L/\ns.length=all.length/\vs.length=i/\∀n∈ns,n<=i,λx _=>(61 - x).toNat,
  ⟨0,[n0],_,_,_,[0],[],_,rfl,by simp,by simp,(λy hy=>by cases OJ.1 hy;exact hst0),rfl,bb24,h24,rfl,rfl,λn hn=>by cases OJ.1 hn;omega⟩,λx w28 hO=>?_⟩
 clear hw24 hw22 hw20 hw18 f22 g22 f18 g18 o22 o18 h24 h20 h9 x22 x18 bb24 b24 b20 b9 s20 s9 b56 sc k6 k6f hw6 h6 hw5 hw3;obtain⟨i,all,va,vn,vx,ns,vs,L,rfl,hi,h60,hst',χ,ε,μ,hnl,hvl,hnb⟩:=hO;obtain⟨a30,cap30,hva⟩:=μ.a.strs.slice;have s28:=ε.size;refine⟨va,μ.c0,a30,_,cap30,hva,λhlt=>?_,λhge=>?_⟩;rotate_left
 ·have ν:¬i< all.length:=by simp only [OP]at hge;omega
  have e:=(El h60 ν hi).symm.trans χ;exact IM μ (by omega) (cb2 ε) λw2 k2 h2=>hR2 _ _ hst e.symm hst' h60 _ _ _ _ _ _ _ _ w2 (toEx ε k2) (by omega) h2 (by omega)
 have ν:=oL hlt;refine⟨va,μ.c0,μ.a.strs.get (Ex.refl _) (PN i) (gE ν) (Q:=λn=>_) ?_⟩;obtain⟨t',B1,et⟩:=hst' _ (OK ν);have hnq:=Da B1;rw [et]at hnq;rw [<-et];refine Bc B1 (λhn w41 ς=>⟨λ _=>bad ((BX h60 ν (hnq.trans hn)).symm.trans χ).symm (Qm ε (Rx ς (by omega))) (μ.ex ς),(λh=>by cases h)⟩) λl hl η w41 ς o39=>⟨(λh=>by cases h),λ _=>?_⟩
 have ζ:=hnq.trans hl;have h41:=μ.ex ς;have bw41:Below b4 Z w41:=Qm ε (Rx ς (by omega));have s41:=ς.size;refine⟨vx,h41.c2,o39.dh,λb50 w51 hb50 hw51=>?_⟩;have x51:Ex w41 w51:=hw51▸Ex.alloc w41 _;have s51:w51.heap.size=w41.heap.size+1:=by rw [hw51,size_alloc]
 refine KV (by_:=24) ((h41.x).ex x51) (by omega) (En o39.dh hb50 hw51) (by omega) (by simp only [OA,OS];omega) λv57 w58 o58 g58 n58=>?_
 obtain⟨f58,q58⟩:=μ.MU (by omega) ς x51 (by omega) (by subst hvl;exact ζ) o39.strs (λg hg=>o39.block g hg) o58 g58 n58;refine⟨o58.dh,f58,λw60 hw60=>?_⟩;obtain⟨h60',b60⟩:=q58 w60 hw60;have bw60:Below b4 Z w60:=Qm ε b60;have hll:=pP ζ;obtain⟨a61,cap61,hv39⟩:=o39.strs.slice;have hlv:vs.length< (vs++[η]).length:=by simp
 have hls:∀{w':World} {va vn vx:Value} {cur:List Tx} {ns:List Nat} {L':Nat->Prop},all<+:cur->rz b4 b4 w' va vn vx cur ns (vs++[η]) L'->Strs w' η l:=λ{w' va vn vx cur ns L'} hp h=>by
  obtain⟨h1,l',h2,h3,_⟩:=h.ls vs.length hlv;have e1:cur[vs.length]=all[i]:=by subst hvl;exact(hp.getElem ν).symm
  have e2:(vs++[η])[vs.length]=η:=by rw [QA (OL _)];simp
  rw [e1,ζ]at h2;rw [e2]at h3;cases h2;exact h3
 generalize hL':(λg=>L g\/η.ownBlock=some g)=L' at*;refine⟨a61,_,cap61,hv39,λx w'=>∃(j:Nat) (va vn vx:Value) (ns:List Nat),x=j/\j<=l.length/\Below b4 Z w'/\rz b4 b4 w' va vn vx (a8 all (l.take j)) ns (vs++[η]) L'/\ns.length=(a8 all (l.take j)).length/\(∀n∈ns,n<=i+1)/\∀h:i< ns.length,ns[i]<=i,λx _=>(l.length - x).toNat,⟨0,va,vn,v57,ns,rfl,Ps _,bw60,h60',hnl,λn hn=>by have :=hnb n hn;omega,λh=>hnb _ (OK h)⟩,λx w67 hI=>?_⟩;obtain⟨j,va2,α,vx2,G,rfl,hj,ξ,J,θ,υ,hni67⟩:=hI;have hcl:=il (l.take j) all;rw [Pm]at hcl;have hpre:all<+:a8 all (l.take j):=pD;have hple:=hpre.length_le;have s67:=ξ.size;refine⟨λhlt2=>?_,λhge2=>?_⟩;rotate_left
 ·have hjl:=oE hge2 (by omega);subst hjl;rw [O6]at J θ hpre hple;obtain⟨a78,cap78,hv78⟩:=J.a.strs.slice;refine⟨va2,J.c0,a78,_,cap78,hv78,λV=>?_,λV=>?_⟩
  ·have V:60< (a8 all l).length:=by simp only [OQ]at V;omega
   exact bad ((DJ h60 ν ζ V).symm.trans χ).symm ξ J
  ·have V:¬60< (a8 all l).length:=by simp only [OP]at V;omega
   refine⟨by omega,⟨i+1,a8 all l,va2,α,vx2,G,vs++[η],L',by omega,by omega,by omega,λs hs=>?_,(AY h60 ν ζ V).symm.trans χ,ξ,J,θ,by simp [hvl],υ⟩,by show(61 - ((i:Int)+1)).toNat< (61 - (i:Int)).toNat;omega⟩;exact(cV.1 hs).elim (hst' s) (II w ζ s)
 have hjl:=oL hlt2;have hmeas:=@tN l.length j (by omega);refine(hls hpre J).get (Ex.refl _) (PN j) (gE hjl) (Q:=λn=>_) ⟨va2,J.c0,jv J.a.strs (by omega) λn74 hn74 _=>⟨λhq=>?_,λhq=>?_⟩⟩;rotate_left
 ·have hq:l[j]∈a8 all (l.take j):=by
   simp only [OP]at hq;exact PE λh=>hq (hn74.2 h)
  have e:a8 all (l.take (j+1))=a8 all (l.take j):=by rw [eY hjl];unfold iu;rw [Pd hq]
  exact⟨by omega,⟨j+1,va2,α,vx2,G,by omega,by omega,ξ,by rw [e];exact J,by rw [e];exact θ,υ,hni67⟩,hmeas⟩
 have hq:l[j]∉a8 all (l.take j):=by
  simp only [OQ]at hq;exact hn74.1 hq
 have e:a8 all (l.take (j+1))=a8 all (l.take j)++[l[j]]:=by rw [eY hjl];unfold iu;rw [OW hq]
 refine⟨va2,J.c0,λb77 w78 hb77 hw78=>?_⟩;have x78:Ex w67 w78:=hw78▸Ex.alloc w67 _;have s78:=x78.size;refine Own.push (J.a.ex x78) (by omega) (Strs.one hb77 hw78) (by simp only [OA,OS];omega) λv84 w85 _ o85 g85 n85=>?_
 obtain⟨f85,q85⟩:=J.KQ (by omega) x78 o85 g85 n85;refine⟨o85.dh,f85,λw87 hw87=>⟨λ _=>True,λβ hw89=>⟨trivial,?_⟩⟩⟩;obtain⟨h87,b87⟩:=q85 w87 hw87;have x89:Ex w87 β:=hw89▸Ex.drew w87;have γ:=h87.ex x89;have s87:=b87.size;have s89:=x89.size;have bw89:Below b4 Z β:=Qm ξ (Qm b87 (Rx x89 (by omega)));have hin:i< G.length:=by omega
 have hni:=hni67 hin;have hrd:∃ω o93 ι,α= .slice (some ⟨ω,o93,none⟩) G.length ι/\β.cell? ⟨ω,o93+i,none⟩=some (iv G[i]):=by
  rcases γ.n.FX (D:=λ _=>True) λ _ _=>trivial with⟨_,h0⟩ | ⟨b',off,cap',e1,_,_,hc⟩
  ·rw [Ro]at h0;rw [h0]at hin;simp at hin
  ·rw [O3]at e1;exact⟨b',off,cap',e1,hc i _ (by simp [hin])⟩
 obtain⟨ω,o93,ι,e92,hc92⟩:=hrd;have fin:∀(κ:Nat) (δ:World),κ=β.heap.size->δ=β.alloc (.cells #[.int .i64 ((G[i]:Int)+1)] tI)->NR δ α (.slice (some ⟨κ,0,none⟩) 1 1) λv104 ψ=>True/\ay v104=true/\((∃u106:Value,World.cell? ψ ⟨b4,1,none⟩=some u106)/\World.frozen? ψ ⟨b4,1,none⟩=false)/\∀ο:World,ο=World.setCell ψ ⟨b4,1,none⟩ v104->True/\a7 ((j:Int)+1)/\(∃(j':Nat) (va vn vx:Value) (ns:List Nat),(j:Int)+1=j'/\j'<=l.length/\Below b4 Z ο/\rz b4 b4 ο va vn vx (a8 all (l.take j')) ns (vs++[η]) L'/\ns.length=(a8 all (l.take j')).length/\(∀n∈ns,n<=i+1)/\∀h:i< ns.length,ns[i]<=i)/\((l.length:Int) - ((j:Int)+1)).toNat< ((l.length:Int) - j).toNat:=λκ δ W H=>by
  have x98:Ex β δ:=H▸Ex.alloc β _;have s98:=x98.size;have ei:Value.int .i64 ((G[i]:Int)+1)=iv (G[i]+1):=rfl;refine KV (by_:=8) (γ.n.ex x98) (by omega) (En rfl W H) (by omega) (by simp only [O3,OA,OS];omega) λv104 ψ o105 g105 n105=>?_
  rw [ei,show G.map iv++[iv (G[i]+1)]=(G++[G[i]+1]).map iv by simp]at o105;obtain⟨f105,q105⟩:=γ.KK (by omega) x98 o105 g105 n105;refine⟨trivial,o105.dh,f105,λο hw107=>?_⟩;obtain⟨h107,b107⟩:=q105 ο hw107;refine⟨trivial,by omega,⟨j+1,_,_,_,_,by omega,by omega,Qm bw89 b107,by rw [e];exact h107,by rw [e];simp [θ],λn hn=>?_,λh=>?_⟩,hmeas⟩
  ·rcases OM.1 hn with hn | hn
   ·exact υ n hn
   ·cases OJ.1 hn;omega
  ·rw [P2 hin];exact hni
 have hInR:a7 ((G[i]:Int)+1):=by omega
 have φ:β.cell? ⟨ω,o93+Int.toNat (i:Int)* 1,none⟩=some (.int .i64 (G[i]:Int)):=by rw [OO,Pg];exact hc92
 refine⟨⟨α,γ.c1,trivial,α,γ.c1,trivial,ω,o93,_,ι,e92,by omega,by omega,_,φ,trivial,hInR,λκ δ W H=>⟨trivial,fin κ δ W H⟩⟩,α,γ.c1,trivial,ω,o93,_,ι,e92,by omega,by omega,⟨α,γ.c1,trivial,_,φ,trivial,hInR,λκ δ W H=>⟨trivial,fin κ δ W H⟩⟩,_,φ,trivial,hInR,⟨α,γ.c1,trivial,λκ δ W H=>⟨trivial,fin κ δ W H⟩⟩,λb139 w140 hb139 hw140=>⟨trivial,α,?_,trivial,fin b139 w140 hb139 hw140⟩⟩;rw [(show Ex β w140 from hw140▸Ex.alloc β _).cell (a:=⟨b4,1,none⟩) γ.lt];exact γ.c1
theorem IT {J:Off UInt8}{G a b:UInt8}{s:Tx}{q:Bool}{k:UInt8}(W:k≠126)(h:vR J (gg G a b s q)):∀c,J.over k=some c↔G=k/\c=a:=by
 intro c;cases J with
 | tau p=>
  obtain⟨_,_,_,h⟩:=h;unfold gg at h;simp only [Px,P5,Rj,QN]at h;have H:G=126:=O8.1 (by omega);exact⟨(λh=>by cases h),λh=>absurd (h.1.symm.trans H) W⟩
 | snd c d p=>
  obtain⟨_,h⟩:=h;unfold gg at h;simp only [Px,P5,Rj,QN]at h;have H:G=33:=O8.1 (by omega);have V:a=c:=O8.1 (by omega);rw [Bj,H,V]
 | rcv c d p Z=>
  unfold vR gg at h;simp only [Px,P5,Rj,QN]at h;have H:G=63:=O8.1 (by omega);have V:a=c:=O8.1 (by omega);rw [Ac,H,V]
def Gs (k:UInt8)(t:P)(l:List (Off UInt8))(c:UInt8):Prop:=∃o∈l,o.over k=some c/\c∉t.frL
theorem Ii {k:UInt8}{t:P}{l m:List (Off UInt8)}{c:UInt8}:Gs k t (l++m) c↔Gs k t l c\/Gs k t m c:=by
 unfold Gs;constructor
 ·rintro⟨o,G,h⟩
  exact(OM.1 G).imp (λh'=>⟨o,h',h⟩) λh'=>⟨o,h',h⟩
 ·rintro(⟨o,G,h⟩ | ⟨o,G,h⟩)
  ·exact⟨o,Pf _ G,h⟩
  ·exact⟨o,O9 _ G,h⟩
theorem By {s:Tx}{k:UInt8}(hk:k≠126){w:World}{R:aB->Bool->Sg}(hR:∀w',Ex w w'->(bX s=none->R [] false w')/\∀n,bX s=some n->R (lV k n) true w'):
  Sh 96 #[.string (ai s),.int .u8 k.toNat] w (aw [.s,.b] R):=by
 refine tJ s k w R ?_;dsimp only [go_sem];dsimp only [go_sem,UInt8.reduceOfNat,UInt32.reduceOfNat,Nat.reduceAdd];refine jf λw5 x5=>⟨λn Z=>⟨(λh=>by cases h),λ _=>?_⟩,λZ=>⟨λ _=>(hR w5 x5).1 Z,(λh=>by cases h)⟩⟩
 obtain⟨t,ok,rfl⟩:=jz Z;have hR:∀w',Ex w w'->R (FC k t) true w':=λw' x=>by have :=(hR w' x).2 _ Z;rwa [yi ok]at this
 have su:=ok.su;obtain⟨hn,ε⟩:=yc ok;have ν:Ok t:=IP ok.al ok.good;have ξ:∀q∈t.ths,Ok q:=λq hq=>⟨(su.al q hq).wf,by rw [aX];have :=(ε q hq).2;omega⟩
 have hfl:t.frL.length<=1099511627776:=by have :=Eg t;have :=ok.len;omega
 refine qC ν (qZ ν ok.nr λv9 w10 x10 o9=>?_);have ο:=o9.strs;obtain⟨a,cap,hv⟩:=ο.slice;rw [O3]at hv;refine⟨a,_,cap,hv,λout x w'=>∃i:Nat,x=i/\i<=t.ths.length/\Ex w10 w'/\jb out/\∀c,c∈out↔Gs k t ((t.ths.take i).flatMap offs) c,λ _ x _=>(t.ths.length - x).toNat,⟨0,rfl,Ps _,Ex.refl _,jb.nil,by simp [Gs]⟩,λout x w18 hI=>?_⟩;obtain⟨i,rfl,hi,ζ,ς,hm⟩:=hI;refine⟨λhlt=>?_,λhge=>?_⟩;rotate_left
 ·have hil:=oE hge (by omega);rw [hil,O6]at hm;have:out=FC k t:=tj ς (Jx k t) λc=>by
   rw [hm,EE su];constructor
   ·rintro⟨o,ho,h1,h2⟩
    obtain⟨q,hq,ho⟩:=Pz.1 ho;exact⟨h2,q,hq,o,ho,h1⟩
   ·rintro⟨h2,q,hq,o,ho,h1⟩
    exact⟨o,Pz.2 ⟨q,hq,ho⟩,h1,h2⟩
  rw [this];exact hR w18 (Ex.trans x5 (Ex.trans x10 ζ))
 have η:=oL hlt;have α:=OK η;have eT:(t.ths.take (i+1)).flatMap offs=(t.ths.take i).flatMap offs++offs t.ths[i]:=by rw [OE η,PX];simp
 refine ο.get ζ (i:=i) (x:=t.ths[i].text) (by omega) (by simp [η]) (Q:=λn=>_) (oJ _ (OL _) (ξ _ α) (su.smpP _ α) (by have :=(ε _ α).1;omega) λv24 υ xs x25 φ m24=>?_);obtain⟨a26,θ,J⟩:=φ.slice;have hm1:=@tN t.ths.length i (by omega);have hol:(offs t.ths[i]).length<=60:=by have :=fW t.ths[i];have :=(ε _ α).1;omega
 generalize hos:offs t.ths[i]=os at*;refine⟨a26,_,θ,J,λout x w'=>∃j:Nat,x=j/\j<=os.length/\Ex υ w'/\jb out/\∀c,c∈out↔Gs k t ((t.ths.take i).flatMap offs++os.take j) c,λ _ x _=>(os.length - x).toNat,⟨0,rfl,Ps _,Ex.refl _,ς,by simpa using hm⟩,λδ x w33 hI=>?_⟩;obtain⟨j,rfl,hj,ι,V,β⟩:=hI;refine⟨λχ=>?_,λψ=>?_⟩;rotate_left
 ·have γ:=oE ψ (by omega);rw [γ,O6,<-eT]at β;exact⟨by omega,⟨i+1,by omega,by omega,Ex.trans ζ (Ex.trans x25 ι),V,β⟩,hm1⟩
 have γ:=oL χ;have ω:=@tN os.length j (by omega);obtain⟨g,capg,cs,hvg,hcs,G⟩:=tQ (φ.ex ι) m24 γ;obtain⟨kk,ca,cb,cs3,cq,rfl⟩:=hcs.any;rw [J]at hvg;refine⟨g,0,_,capg,J.trans hvg,by omega,by omega,kk,ca,cb,cs3,cq,⟨G 0 _ rfl _ (by omega) (by omega),G 1 _ rfl _ (by omega) (by omega),G 2 _ rfl _ (by omega) (by omega),G 3 _ rfl _ (by omega) (by omega),G 4 _ rfl _ (by omega) (by omega),trivial⟩,λb43 w44 hb43 hw44=>?_⟩;obtain⟨box1,box2⟩:=LK (cs:=gg kk ca cb cs3 cq) rfl rfl hb43 hw44;refine⟨⟨rfl,uJ,box1⟩,λw45 hw45=>?_⟩;obtain⟨x45,l45,κ⟩:=box2 w45 hw45;have W:=Ex.trans ι x45;have μ:=IT hk hcs;have etk:(t.ths.take i).flatMap offs++os.take (j+1)=((t.ths.take i).flatMap offs++os.take j)++[os[j]]:=by rw [OE γ,Po]
 have skip:∀{w':World},Ex w45 w'->(¬(kk=k/\ca∉t.frL))->a7 ((j:Int)+1)/\(∃j':Nat,(j:Int)+1=j'/\j'<=os.length/\Ex υ w'/\jb δ/\∀c,c∈δ↔Gs k t ((t.ths.take i).flatMap offs++os.take j') c)/\((os.length:Int) - ((j:Int)+1)).toNat< ((os.length:Int) - j).toNat:=λ{w'} x h=>by
  refine⟨by omega,⟨j+1,by omega,by omega,Ex.trans W x,V,λc=>?_⟩,ω⟩;rw [etk,Ii,β];have:¬Gs k t [os[j]] c:=by
   rintro⟨o,ho,h1,h2⟩
   cases OJ.1 ho;obtain⟨h3,h4⟩:=(μ c).1 h1;exact h ⟨h3,h4▸h2⟩
  simp [this]
 refine⟨kk,κ 0 (by omega),λH=>⟨ca,κ 1 (by omega),iU hfl ⟨λhn=>⟨ca,κ 1 (by omega),?_⟩,λhn=>skip (Ex.refl _) ?_⟩⟩,λH=>skip (Ex.refl _) ?_⟩
 ·have H:kk=k:=by simpa using H
  have hn:ca∉t.frL:=by simpa using hn
  refine fG V λs' w52 x52 hs' hm'=>⟨by omega,⟨j+1,by omega,by omega,Ex.trans W x52,hs',λc=>?_⟩,ω⟩
  rw [hm',etk,Ii,β];have:Gs k t [os[j]] c↔c=ca:=by
   constructor
   ·rintro⟨o,ho,h1,h2⟩
    cases OJ.1 ho;exact((μ c).1 h1).2
   ·rintro rfl
    exact⟨_,OJ.2 rfl,(μ _).2 ⟨H,rfl⟩,hn⟩
  rw [this];exact or_comm
 ·have hn:ca∈t.frL:=by simpa using hn
  exact λh=>h.2 hn
 ·have H:kk≠k:=by simpa using H
  exact λh=>H h.1
theorem FG {s:Tx}(J:St s){w:World}{R:aB->aB->Sg}(hR:∀w',Ex w w'->R (lV 33 s) (lV 63 s) w'):
  Sh 103 #[.string (ai s)] w (aw [.s,.s] R):=by
 obtain⟨t,ok,rfl⟩:=J;have G:=qH ok;refine rS _ w R ?_;dsimp only [go_sem];dsimp only [go_sem,UInt8.reduceOfNat,UInt32.reduceOfNat,Nat.reduceAdd];refine rV _ w _ ?_;dsimp only [go_sem];dsimp only [go_sem,UInt8.reduceOfNat,UInt32.reduceOfNat,Nat.reduceAdd];refine By (k:=33) (by decide) λw1 V=>⟨(λh=>by rw [G]at h;cases h),λn H=>?_⟩
 rw [G]at H;cases H;refine oH _ w1 _ ?_;dsimp only [go_sem];dsimp only [go_sem,UInt8.reduceOfNat,UInt32.reduceOfNat,Nat.reduceAdd];refine By (k:=63) (by decide) λw2 W=>⟨(λh=>by rw [G]at h;cases h),λn H=>?_⟩
 rw [G]at H;cases H;exact hR w2 (Ex.trans V W)
theorem Ad (k:UInt8)(s:Tx):(lV k s).length<=26:=by
 have:nz.length=26:=by simp [nz]
 unfold lV;split
 ·exact this▸QD _ _
 ·simp
theorem GB {w w1:World}{b3 e:Nat}{x y z:Value}(hb:b3=w.heap.size)(h:w1=w.alloc (.cells #[x,y,z] e)):∀{w':World},Ex w1 w'->∀j,j< 3->(∃u,w'.cell? ⟨b3,j,none⟩=some u)/\w'.frozen? ⟨b3,j,none⟩=false:=λ{w'} k j hj=>by
 have s1:w1.heap.size=w.heap.size+1:=by rw [h,size_alloc]
 rw [k.cell (a:=⟨b3,j,none⟩) (show b3< _ by omega),PO k (show b3< _ by omega),h,hb];refine⟨?_,aG _ _ _ _⟩
 match j,hj with
 | 0,_=>exact⟨_,aa rfl⟩
 | 1,_=>exact⟨_,aa rfl⟩
 | 2,_=>exact⟨_,aa rfl⟩
def MY (w:World)(b r:Nat)(fs:Tx)(x:Int)(w':World):Prop:=
 ∃(i:Nat) (all:List Tx) (mm:Value->Option Value) (L:Nat->Prop),x=i/\i<=all.length/\all.length<=60/\(∀s∈all,St s)/\bfs (62 - i) all i=bfs 62 [fs] 0/\Ex w w'/\zL w.heap.size b r fs w' all i mm L
def NV (w:World)(b r:Nat)(fs:Tx)(all:List Tx)(n:Nat)(vl:Value)(l:List Tx)(mm:Value->Option Value)(x:Int)(w':World):Prop:=
 ∃(j:Nat) (L:Nat->Prop),x=j/\j<=l.length/\Ex w w'/\Strs w' vl l/\zL w.heap.size b r fs w' (a8 all (l.take j)) n mm L
theorem zL.strs {B b r n:Nat}{fs:Tx}{w:World}{all l:List Tx}{mm:Value->Option Value}{L:Nat->Prop}(h:zL B b r fs w all n mm L){j:Nat}(hj:j< all.length)(G:j< n){v:Value}(hm:mm (.string (ai all[j]))=some v)(J:sM all[j]=some l):Strs w v l:=by
 obtain⟨v',W,H,h2,V,_⟩:=h.nx j hj G;rw [hm]at H;cases H;rw [J]at h2;cases h2;exact V
theorem qS {s:Tx}{w:World}{R:Value->Bool->Sg}(hR1:aV s=none->∀w',Ex w w'->R (.pointer none) false w')
  (hR2:∀n0 all,bX s=some n0->aV s=some all->(∀x∈all,St x)->all.length<=60->∀b r mm L w',Ex w w'->zL w.heap.size b r n0 w' all all.length mm L->R (ptr b) true w'):
  Sh 90 #[.string (ai s)] w (aw [.v,.b] R):=by
 refine r6 s w R ?_;refine FU (λhn w4 x4=>⟨λ _=>hR1 (by unfold aV;rw [hn];rfl) w4 x4,(λh=>by cases h)⟩) λt ok hst b2 w4 x4 hb2 st=>⟨(λh=>by cases h),λ _=>?_⟩
 have hg:aV s=bfs 62 [t.text] 0:=by unfold aV;rw [hst];rfl
 rw [hg]at hR1 hR2;have hb2l:=st.mc.lt;have ctx:∀w',Ex w4 w'->w'.cell? ⟨b2,0+1,none⟩=some (.string (ai t.text)):=λw' x=>by rw [x.cell (a:=⟨b2,0+1,none⟩) hb2l];exact st.tx
 refine⟨λw'=>Ex w4 w',λw6 hw6=>⟨hw6▸Ex.drew w4,b2,0,rfl,t.text,ctx,b2,0,rfl,t.text,ctx,?_,?_⟩⟩;have x6:Ex w4 w6:=hw6▸Ex.drew w4;intro bo Z ν H;have J:Ex w6 Z:=H▸Ex.alloc w6 _;have ξ:Z.heap.size=w6.heap.size+1:=by rw [H,size_alloc]
 refine⟨Ex.trans x6 J,?_⟩;intro r α hr V;have W:Ex Z α:=V▸Ex.alloc Z _;have ο:α.heap.size=Z.heap.size+1:=by rw [V,size_alloc]
 refine⟨Ex.trans x6 (Ex.trans J W),rfl,rfl,?_⟩;intro b β hb G;have ζ:Ex α β:=G▸Ex.alloc α _;have s18:β.heap.size=α.heap.size+1:=by rw [G,size_alloc]
 have γ:=Ex.trans J (Ex.trans W ζ);refine⟨Ex.trans x6 γ,?_⟩;have s4:=x4.size;have s6:=x6.size;have em:β.heap[r]?=some (.map #[] 0):=by rw [ζ.block r (by omega),V,hr];unfold World.alloc;simp
 have hI:zL w.heap.size b r t.text β [t.text] 0 (cB []) λ _=>False:=by
  refine⟨by omega,by omega,by omega,by omega,λj=>by rw [G,hb];exact aG _ _ _ _,by rw [G,hb];exact aa rfl,by rw [G,hb];exact aa rfl,⟨#[],0,em,⟨by simp,by simp,by simp⟩,by simp,λq=>rfl⟩,λg hg=>hg.elim,⟨.slice (some ⟨bo,0,none⟩) 1 1,by rw [G,hb];exact aa rfl,(Own.one (by omega) ν H).ex (Ex.trans W ζ),λg hg=>?_⟩,λj _ hj=>by omega⟩;have hg:bo=g:=Pu hg;exact⟨by omega,by omega,λh=>h⟩
 have ς:Ex w β:=Ex.trans x4 (Ex.trans x6 γ);clear em G V H s18 ο ξ hb hr ν J W ζ γ x6 s6;refine⟨MY w b r t.text,λx _=>(61 - x).toNat,⟨0,[t.text],_,_,rfl,by simp,by simp,λs hs=>by cases OJ.1 hs;exact⟨t,ok,rfl⟩,rfl,ς,hI⟩,λx w22 hO=>?_⟩;rotate_left
 have x6:Ex w4 w6:=hw6▸Ex.drew w4;intro r Z hr H;have J:Ex w6 Z:=H▸Ex.alloc w6 _;have ξ:Z.heap.size=w6.heap.size+1:=by rw [H,size_alloc]
 refine⟨Ex.trans x6 J,?_⟩;intro bo α ν V;have W:Ex Z α:=V▸Ex.alloc Z _;have ο:α.heap.size=Z.heap.size+1:=by rw [V,size_alloc]
 refine⟨Ex.trans x6 (Ex.trans J W),rfl,rfl,?_⟩;intro b β hb G;have ζ:Ex α β:=G▸Ex.alloc α _;have s18:β.heap.size=α.heap.size+1:=by rw [G,size_alloc]
 have γ:=Ex.trans J (Ex.trans W ζ);refine⟨Ex.trans x6 γ,?_⟩;have s4:=x4.size;have s6:=x6.size;have em:β.heap[r]?=some (.map #[] 0):=by rw [ζ.block r (by omega),W.block r (by omega),H,hr];unfold World.alloc;simp
 have hI:zL w.heap.size b r t.text β [t.text] 0 (cB []) λ _=>False:=by
  refine⟨by omega,by omega,by omega,by omega,λj=>by rw [G,hb];exact aG _ _ _ _,by rw [G,hb];exact aa rfl,by rw [G,hb];exact aa rfl,⟨#[],0,em,⟨by simp,by simp,by simp⟩,by simp,λq=>rfl⟩,λg hg=>hg.elim,⟨.slice (some ⟨bo,0,none⟩) 1 1,by rw [G,hb];exact aa rfl,(Own.one (by omega) ν V).ex ζ,λg hg=>?_⟩,λj _ hj=>by omega⟩;have hg:bo=g:=Pu hg;exact⟨by omega,by omega,λh=>h⟩
 have ς:Ex w β:=Ex.trans x4 (Ex.trans x6 γ);clear em G V H s18 ο ξ hb hr ν J W ζ γ x6 s6;refine⟨MY w b r t.text,λx _=>(61 - x).toNat,⟨0,[t.text],_,_,rfl,by simp,by simp,λs hs=>by cases OJ.1 hs;exact⟨t,ok,rfl⟩,rfl,ς,hI⟩,λx w22 hO=>?_⟩
 all_goals
  obtain⟨i,all,mm,L,rfl,hi,υ,φ,κ,x22,hO⟩:=hO;obtain⟨v,hv1,hv2,hv3⟩:=hO.sl;obtain⟨a,cap,hv⟩:=hv2.strs.slice;refine⟨v,hv1,a,_,cap,hv,λhlt=>?_,λhge=>?_⟩;rotate_left
  ·have δ:¬i< all.length:=by simp only [OP]at hge;omega
   have e:=(El υ δ hi).symm.trans κ;have ei:i=all.length:=by omega
   subst ei;exact hR2 _ _ hst e.symm φ υ b r mm L w22 x22 hO
  have δ:=oL hlt;refine⟨v,hv1,hv2.strs.get (Ex.refl _) (PN i) (gE δ) (Q:=λn=>_) ?_⟩;obtain⟨t',B1,et⟩:=φ _ (OK δ);have hsz':=B1.size;have hlen':=B1.len;have hnq:=Da B1;have s22:=x22.size;rw [et]at hnq;rw [<-et];refine Dn B1.al (by omega) (by omega) λb33 w34 χ hb33 st'=>IG B1 st' (λg hg=>⟨hg.2.1,hg.2.2⟩) (λhn ι k37=>⟨λ _=>hR1 ((BX υ δ (hnq.trans hn)).symm.trans κ).symm ι ?_,(λh=>by cases h)⟩) λl hl v35 ι k37 hs35 hv35=>⟨(λh=>by cases h),λ _=>?_⟩
  ·exact Ex.trans x22 (Ex.below χ (Kp.below k37 χ.size λg hg e=>by omega))
  have μ:=hnq.trans hl;have s34:=χ.size;have η:Ex w22 ι:=Ex.below χ (Kp.below k37 χ.size λg hg e=>by omega);obtain⟨bv,ov,capv,hv',hbv,hcv⟩:=hv2.strs.at δ;refine⟨λw'=>Ex ι w',λw39 hw39=>⟨hw39▸Ex.drew ι,.map (some r),λw' x=>(hO.ex (Ex.trans η x)).c2,v,λw' x=>?_,bv,ov,_,capv,hv',by omega,by omega,all[i],λw' x=>?_,r,mm,rfl,?_⟩⟩
  ·rw [(Ex.trans η x).cell (a:=⟨b,1,none⟩) hO.lt];exact hv1
  ·rw [(Ex.trans η x).cell (a:=⟨bv,_,none⟩) hbv,OO,Pg];exact hcv
  have x39:Ex ι w39:=hw39▸Ex.drew ι;have θ:=Ex.trans η x39;refine⟨(hO.ex θ).mp,λw49 hm49 k49=>?_⟩;have hU:=hO.aI s22 θ δ μ hm49 k49 (hs35.ex x39) λg hg=>by have :=hv35 g hg;omega
  have x49:Ex w w49:=Ex.below (Ex.trans x22 θ) (Kp.below (Kp.jR k49) (by have :=θ.size;omega) λg hg e=>by have :=hO.lr;omega);generalize hmm':bS mm (.string (ai all[i])) v35=mm' at*;have hkey:mm' (.string (ai all[i]))=some v35:=by rw [<-hmm'];unfold bS;simp
  have ψ:∀{w':World} {cur:List Tx} {L':Nat->Prop},all<+:cur->zL w.heap.size b r t.text w' cur (i+1) mm' L'->Strs w' v35 l:=λ{w' cur L'} hp h=>by
   have e:∃h:i< cur.length,cur[i]=all[i]:=⟨O5 δ hp.length_le,(hp.getElem δ).symm⟩
   obtain⟨h1,h2⟩:=e;exact h.strs h1 (by omega) (by rw [h2];exact hkey) (by rw [h2];exact μ)
  have hll:=pP μ;obtain⟨av,capl,hvl⟩:=hs35.slice;refine⟨av,_,capl,hvl,NV w b r t.text all (i+1) v35 l mm',λx _=>(l.length - x).toNat,⟨0,_,rfl,Ps _,x49,ψ (Rt _) hU,hU⟩,λx w56 hI=>?_⟩;obtain⟨j,L1,rfl,hj,ω,hs56,hI⟩:=hI;obtain⟨v62,c62,o62,n62⟩:=hI.sl;have hcl:=il (l.take j) all;rw [Pm]at hcl;have hpre:all<+:a8 all (l.take j):=pD;have hple:=hpre.length_le;refine⟨λhlt2=>?_,λhge2=>?_⟩;rotate_left
  ·have hjl:=oE hge2 (by omega);subst hjl;rw [O6]at hI hple hpre o62;obtain⟨a78,cap78,hv78⟩:=o62.strs.slice;refine⟨v62,c62,a78,_,cap78,hv78,λε=>?_,λε=>?_⟩
   ·have ε:60< (a8 all l).length:=by simp only [OQ]at ε;omega
    exact hR1 ((DJ υ δ μ ε).symm.trans κ).symm w56 ω
   ·have ε:¬60< (a8 all l).length:=by simp only [OP]at ε;omega
    refine⟨by omega,⟨i+1,a8 all l,mm',L1,by omega,by omega,by omega,λs hs=>?_,(AY υ δ μ ε).symm.trans κ,ω,hI⟩,by show(61 - ((i:Int)+1)).toNat< (61 - (i:Int)).toNat;omega⟩;exact(cV.1 hs).elim (φ s) (II w μ s)
  have hjl:=oL hlt2;have hmeas:=@tN l.length j (by omega);refine hs56.get (Ex.refl _) (PN j) (gE hjl) (Q:=λn=>_) ⟨v62,c62,Es o62.strs (by omega) ⟨λhq=>⟨v62,c62,λb66 w67 hb66 hw67=>?_⟩,λhq=>?_⟩⟩
  ·have hq:l[j]∉a8 all (l.take j):=by simpa using hq
   have x67:Ex w56 w67:=hw67▸Ex.alloc w56 _;have s56:=ω.size;have s67:=x67.size;refine Own.push (o62.ex x67) (by omega) (Strs.one hb66 hw67) (by simp only [OA,OS];omega) λv73 w74 _ ho hg hn=>?_
   obtain⟨f1,f2⟩:=hI.app (by omega) s56 c62 x67 ho hg hn;refine⟨ho.dh,f1,λw76 hw76=>?_⟩;obtain⟨h76,b76⟩:=f2 w76 hw76;have e:a8 all (l.take (j+1))=a8 all (l.take j)++[l[j]]:=by rw [eY hjl];unfold iu;rw [OW hq]
   refine⟨by omega,⟨j+1,L1,by omega,by omega,Ex.below ω b76,ψ (hpre.trans (R6 _ _)) h76,by rw [e];exact h76⟩,hmeas⟩
  ·have hq:l[j]∈a8 all (l.take j):=by simpa using hq
   have e:a8 all (l.take (j+1))=a8 all (l.take j):=by rw [eY hjl];unfold iu;rw [Pd hq]
   exact⟨by omega,⟨j+1,L1,by omega,by omega,ω,hs56,by rw [e];exact hI⟩,hmeas⟩
theorem Dl {a:List Tx}{s:Tx}(h:a.Nodup):(iu a s).Nodup:=by
 unfold iu;split
 ·exact h
 ·rename_i G;exact Pj.2 ⟨h,by simp,λx H y J=>by cases OJ.1 J;exact λe=>G (e▸H)⟩
theorem sX:∀{l a:List Tx},a.Nodup->(a8 a l).Nodup
 | [],_,h=>h
 | s::l,a,h=>sX (l:=l) (a:=iu a s) (Dl h)
structure KO (all:List Tx)(n:Nat):Prop where
 nd:all.Nodup
 cl:∀(j:Nat) (h:j< all.length),j< n->∃l,sM all[j]=some l/\∀s∈l,s∈all
theorem EA:∀(f:Nat) (all:List Tx) (i:Nat) (out:List Tx),KO all i->bfs f all i=some out->KO out out.length/\all<+:out
 | 0,_,_,_,_,h=>by cases h
 | f+1,all,i,out,c,h=>by
  unfold bfs at h;split at h
  ·rename_i hi;split at h
   ·cases h
   ·rename_i l V;split at h
    ·exact absurd h (by simp)
    ·have H:all<+:a8 all l:=pD;have c2:KO (a8 all l) (i+1):=⟨sX c.nd,λj hj W=>by
      by_cases e:j=i
      ·subst e;exact⟨l,by rw [<-H.getElem hi];exact V,λs J=>cV.2 (.inr J)⟩
      ·have G:j< all.length:=by omega
       obtain⟨Z,h3,h4⟩:=c.cl j G (by omega);exact⟨Z,by rw [<-H.getElem G];exact h3,λs J=>cV.2 (.inl (h4 s J))⟩⟩
     obtain⟨h1,h2⟩:=EA f (a8 all l) (i+1) out c2 h;exact⟨h1,H.trans h2⟩
  ·rename_i hi;cases h;exact⟨⟨c.nd,λj hj _=>c.cl j hj (by omega)⟩,Rt _⟩
theorem oB {s n0:Tx}{all:List Tx}(G:bX s=some n0)(h:aV s=some all):KO all all.length/\[n0]<+:all:=by
 unfold aV at h;rw [G]at h;exact EA 62 [n0] 0 all ⟨by simp,λj _ hj=>by omega⟩ h
theorem KO.nx {all:List Tx}(c:KO all all.length){s:Tx}(h:s∈all):∃l,sM s=some l/\∀x∈l,x∈all:=by
 obtain⟨j,hj,rfl⟩:=Py.1 h;exact c.cl j hj hj
noncomputable def B0 (s:Tx):List Tx:=(sM s).getD []
theorem yK {s:Tx}{l:List Tx}(h:sM s=some l):B0 s=l:=by unfold B0;rw [h];rfl
def put (f:Tx->Bool)(s:Tx)(b:Bool):Tx->Bool:=λx=>if x=s then b else f x
def cnt (l:List Tx)(f:Tx->Bool):Nat:=l.countP f
end Go.Proofs.YtdecokaadekjnaaGreat
namespace Go.Proofs.YtdecokaadekjnaaGreat
open Go
attribute [go_sem] Tryz.f15
attribute [go_sem] Tryz.f94
attribute [go_sem] Tryz.f50
attribute [go_sem] Tryz.f16
attribute [go_sem] Tryz.f4
end Go.Proofs.YtdecokaadekjnaaGreat
namespace Go.Proofs.YtdecokaadekjnaaGreat
open Go Go.RowKit T Classical
theorem Lj {f:Nat}{ca:List Value}{w:World}{v:Value}{l:List Tx}(h:Strs w v l)(hl:l.length<=1099511627776)(hf:hasR fY f=true)(J:Tx->Prop)
  (hp:∀s∈l,∀(w':World) (Q:Bool->Sg),Ex w w'->(∀w2,Ex w' w2->Q (decide (J s)) w2)->Sh f (List.toArray ([.string (ai s)]++ca)) w' (aw [.b] Q))
  {R:Int->Sg} (hR:∀w',Ex w w'->(∀(j:Nat) (h:j< l.length),J l[j]->(∀s∈l.take j,¬J s)->R j w')/\((∀s∈l,¬J s)->R (-1) w')):
  Sh 61 #[v,.func (Fn.func f) #[] ca.toArray] w (aw [.i] R):=by
 refine im v _ w _ ?_;dsimp only [go_sem];dsimp only [go_sem,UInt8.reduceOfNat,UInt32.reduceOfNat,Nat.reduceAdd];obtain⟨ao,cap,hv⟩:=h.slice;refine⟨ao,_,cap,hv,λi w'=>∃j:Nat,i=j/\j<=l.length/\Ex w w'/\∀s∈l.take j,¬J s,λi _=>(l.length - i).toNat,⟨0,rfl,Ps _,Ex.refl w,by simp⟩,λi w' hI=>?_⟩;obtain⟨j,rfl,hj,x,hm⟩:=hI;refine⟨λW=>?_,λZ=>?_⟩
 ·have G:=oL W;refine h.get x (PN j) (gE G) (Q:=λn=>_) ⟨f,ca,rfl,hf,?_⟩;refine hp _ (OK G) _ _ x λw2 x2=>⟨λhe=>?_,λH=>?_⟩
  ·exact(hR w2 (Ex.trans x x2)).1 j G (by simpa using he) hm
  ·have H:¬J l[j]:=by simpa using H
   refine⟨by omega,⟨j+1,by omega,by omega,Ex.trans x x2,λs V=>?_⟩,tN (by omega)⟩;rw [OE G,OM,OJ]at V;exact V.elim (hm s) λe=>e▸H
 ·have:j=l.length:=by simp only [OP]at Z;omega
  rw [this,O6]at hm;exact(hR w' x).2 hm
theorem Ho {f:Nat}{ca:List Value}{w:World}{v:Value}{l:List Tx}(h:Strs w v l)(J:l.length<=1099511627776)(V:hasR fY f=true)(G:Tx->Prop)
  (W:∀s∈l,∀(w':World) (Q:Bool->Sg),Ex w w'->(∀w2,Ex w' w2->Q (decide (G s)) w2)->Sh f (List.toArray ([.string (ai s)]++ca)) w' (aw [.b] Q))
  {R:Bool->Sg} (hR:∀w',Ex w w'->R (decide (∃s∈l,G s)) w'):
  Sh 47 #[v,.func (Fn.func f) #[] ca.toArray] w (aw [.b] R):=by
 refine fP v _ w R ?_;dsimp only [go_sem];dsimp only [go_sem,UInt8.reduceOfNat,UInt32.reduceOfNat,Nat.reduceAdd];refine Lj h J V G W λw' x=>⟨λj hj H _=>?_,λZ=>?_⟩
 ·show R (decide (0<=(j:Int))) _;rw [PG (show(0:Int)<=(j:Int) by omega)];have :=hR w' x;rw [PG ⟨_,OK hj,H⟩]at this;exact this
 ·show R (decide ((0:Int)<= -1)) _;rw [PT (show ¬(0:Int)<= -1 by omega)];have :=hR w' x;rw [PT (fun⟨s,h1,h2⟩=>Z s h1 h2)]at this;exact this
noncomputable def B6 (w:World)(r:Nat):Value->Option Value:=match w.heap[r]? with
 | some (.map es _)=>cB es.toList
 | _=>λ _=>none
theorem fH {w:World}{r:Nat}{d:TypeDesc}{m:Value->Option Value}(h:IsMap w r d m):B6 w r=m:=by
 obtain⟨es,clock,G,_,_,h2⟩:=h;unfold B6;rw [G];exact funext λq=>(h2 q).symm
structure HB (w:World)(r c:Nat)(P:Tx->Prop)(f:Tx->Bool)(w':World):Prop where
 ex:Ex w w'
 lr:w.heap.size<=r
 lc:w.heap.size<=c
 ne:c≠r
 lt:c< w'.heap.size
 c0:w'.cell? ⟨c,0,none⟩=some (.map (some r))
 mp:∃m,IsMap w' r .string m/\∀s,P s->m (.string (ai s))=some (.bool (f s))
section
variable {w w1 w2:World} {r c:Nat} {P:Tx->Prop} {f:Tx->Bool}
theorem HB.to (h:HB w r c P f w1)(x:Ex w1 w2):HB w r c P f w2:=by
 obtain⟨m,G,h2⟩:=h.mp;have :=x.size;have :=h.lt;exact⟨Ex.trans h.ex x,h.lr,h.lc,h.ne,by omega,by rw [x.cell (a:=⟨c,0,none⟩) h.lt];exact h.c0,m,aS G (x.block r (bT G)),h2⟩
theorem HB.aI (h:HB w r c P f w1){m:Value->Option Value}(hm:IsMap w1 r .string m){s:Tx}{b:Bool}(G:IsMap w2 r .string (bS m (.string (ai s)) (.bool b)))(k:bs w1 w2 r):HB w r c (λx=>P x\/x=s) (put f s b) w2:=by
 obtain⟨m',H,h2⟩:=h.mp;have e:m'=m:=(fH H).symm.trans (fH hm);subst e;have kp:=Kp.jR k;have s1:=h.ex.size;have V:=h.lt;have l2:=k.size;have W:=h.lr;refine⟨Ex.below h.ex (Kp.below kp s1 λg Z e=>by omega),h.lr,h.lc,h.ne,by omega,by rw [OB (w:=w1) (k.block c h.ne)];exact h.c0,_,G,λx J=>?_⟩;unfold bS put;by_cases e:x=s
 ·rw [Pd e,Pd (by rw [e])]
 ·rw [OW e,OW λh=>e (eP (Ru h))];exact h2 x (J.resolve_right e)
theorem HB.cnt {all:List Tx}(h:HB w r c (λs=>s∈all) f w1):Proofs.YtdecokaadekjnaaGreat.cnt all (λs=>decide (B6 w1 r (.string (ai s))=some (.bool true)))=Proofs.YtdecokaadekjnaaGreat.cnt all f:=by
 obtain⟨m,G,h2⟩:=h.mp;rw [fH G];unfold Proofs.YtdecokaadekjnaaGreat.cnt;refine List.countP_congr λs H=>?_
 rw [h2 s H];simp
end
theorem HB.mono {w w1:World}{r c:Nat}{P G:Tx->Prop}{f H:Tx->Bool}(h:HB w r c P f w1)(J:∀s,G s->P s/\H s=f s):HB w r c G H w1:=by
 obtain⟨m,W,h2⟩:=h.mp;exact⟨h.ex,h.lr,h.lc,h.ne,h.lt,h.c0,m,W,λs V=>by rw [(J s V).2];exact h2 s (J s V).1⟩
inductive nP:Tx->Tx->Prop
 | refl (s:Tx):nP s s
 | step {s t u:Tx}:nP s t->u∈B0 t->nP s u
theorem nP.trans {s t u:Tx}(h:nP s t)(k:nP t u):nP s u:=by
 induction k with
 | refl=>exact h
 | step _ hu G=>exact .step G hu
theorem nP.front {s t u:Tx}(h:t∈B0 s)(k:nP t u):nP s u:=nP.trans (.step (.refl s) h) k
def Cl (all:List Tx):Prop:=∀s∈all,∃l,sM s=some l/\∀x∈l,x∈all
theorem Cl.B0 {all:List Tx}(c:Cl all){s x:Tx}(H:s∈all)(G:x∈B0 s):x∈all:=by
 obtain⟨l,J,h2⟩:=c s H;rw [yK J]at G;exact h2 x G
theorem Cl.MT {all:List Tx}(c:Cl all){s t:Tx}(G:s∈all)(h:nP s t):t∈all:=by
 induction h with
 | refl=>exact G
 | step _ hu H=>exact c.B0 H hu
theorem KO.NH {all:List Tx}(c:KO all all.length):Cl all:=λ _ G=>c.nx G
theorem Cl.add {a b:List Tx}(ha:Cl a)(hb:Cl b):Cl (a8 a b):=λs J=>by
 rcases cV.1 J with h | h
 ·obtain⟨l,G,h2⟩:=ha s h;exact⟨l,G,λx H=>cV.2 (.inl (h2 x H))⟩
 ·obtain⟨l,G,h2⟩:=hb s h;exact⟨l,G,λx H=>cV.2 (.inr (h2 x H))⟩
def Oc (k:UInt8)(s:Tx)(c:UInt8):Prop:=∃t,nP s t/\c∈lV k t
noncomputable def p6 (k:UInt8)(s:Tx):Tx:=nz.filter λc=>decide (Oc k s c)
theorem HL {k:UInt8}{s:Tx}{c:UInt8}(h:c∈lV k s):c∈nz:=by
 unfold lV at h;split at h
 ·unfold FC at h;exact(QF.1 h).1
 ·cases h
theorem DZ {k:UInt8}{s:Tx}{c:UInt8}:c∈p6 k s↔Oc k s c:=by
 unfold p6;rw [QF,OQ];exact⟨λh=>h.2,λh=>⟨by obtain⟨t,_,G⟩:=h;exact HL G,h⟩⟩
theorem y8 (k:UInt8)(s:Tx):(p6 k s).Pairwise (· < ·):=j4.filter _
theorem C3 {k:UInt8}{s:Tx}{c:UInt8}(h:c∈p6 k s):lt c=true:=pF.1 (QF.1 h).1
theorem Eh (k:UInt8)(s:Tx):(p6 k s).length<=26:=by
 have:nz.length=26:=by simp [nz]
 unfold p6;exact this▸QD _ _
def KC (s t:Tx):Prop:=p6 33 s=p6 33 t/\p6 63 s=p6 63 t
theorem A6 {s t:Tx}:(p6 33 s++[47]++p6 63 s=p6 33 t++[47]++p6 63 t)↔KC s t:=by
 constructor
 ·intro h;have no:∀(k:UInt8) (s:Tx),(47:UInt8)∉p6 k s:=λk s hm=>absurd (C3 hm) (by decide)
  have key:∀{a b c d:Tx},(47:UInt8)∉a->(47:UInt8)∉c->a++[47]++b=c++[47]++d->a=c/\b=d:=by
   intro a
   induction a with
   | nil=>
    intro b c d _ hc e;cases c with
    | nil=>exact⟨rfl,by simpa using e⟩
    | cons y c=>
     simp only [PB,PD,Px]at e;exact absurd (OY.2 (.inl e.1)) hc
   | cons x a H=>
    intro b c d ha hc e;cases c with
    | nil=>
     simp only [PB,PD,Px]at e;exact absurd (OY.2 (.inl e.1.symm)) ha
    | cons y c=>
     simp only [PD,Px]at e;obtain⟨G,h2⟩:=H (λh=>ha (OU _ h)) (λh=>hc (OU _ h)) e.2;exact⟨by rw [e.1,G],h2⟩
  exact key (no _ _) (no _ _) h
 ·rintro⟨G,h2⟩
  rw [G,h2]
def Hf (A:Tx->Tx->Option Nat)(s t:Tx):Prop:=∀k∈B0 s,∃n,nP t n/\A k n=none
noncomputable def ap:Nat->Tx->Tx->Option Nat
 | 0,s,t=>if KC s t then none else some 0
 | r+1,s,t=>match ap r s t with
  | some k=>some k
  | none=>if Hf (ap r) s t/\Hf (ap r) t s then none else some (r+1)
theorem xR:∀(r:Nat) (s t:Tx),ap r s t=ap r t s
 | 0,s,t=>by
  unfold ap;have:KC s t↔KC t s:=⟨λh=>⟨h.1.symm,h.2.symm⟩,λh=>⟨h.1.symm,h.2.symm⟩⟩
  simp only [this]
 | r+1,s,t=>by
  unfold ap;rw [xR r s t];have:(Hf (ap r) s t/\Hf (ap r) t s)↔(Hf (ap r) t s/\Hf (ap r) s t):=and_comm;simp only [this]
theorem jJ {r:Nat}{s t:Tx}{k:Nat}(h:ap r s t=some k):ap (r+1) s t=some k:=by
 unfold ap;rw [h]
theorem fF {r:Nat}{s t:Tx}(h:ap r s t=none):ap (r+1) s t=if Hf (ap r) s t/\Hf (ap r) t s then none else some (r+1):=by
 conv=>lhs;unfold ap
 rw [h]
theorem zw {r:Nat}{s t:Tx}{k:Nat}(h:ap r s t=some k):∀d,ap (r+d) s t=some k
 | 0=>h
 | d+1=>jJ (zw h d)
theorem GP:∀{r:Nat} {s t:Tx} {k:Nat},ap r s t=some k->k<=r
 | 0,s,t,k,h=>by
  unfold ap at h;split at h<;>cases h
  exact OL _
 | r+1,s,t,k,h=>by
  cases e:ap r s t with
  | some G=>
   rw [jJ e]at h;cases h;have :=GP e;omega
  | none=>
   rw [fF e]at h;split at h<;>cases h
   exact OL _
noncomputable def zK (s t:Tx):Option Nat:=if h:∃r,ap r s t≠none then ap h.choose s t else none
theorem ER {all:List Tx}(c:Cl all){r:Nat}(h:∀s∈all,∀t∈all,ap (r+1) s t=ap r s t):∀s∈all,∀t∈all,zK s t=ap r s t:=by
 have hd:∀d,∀s∈all,∀t∈all,ap (r+d) s t=ap r s t:=by
  intro d
  induction d with
  | zero=>intro s _ t _;rfl
  | succ d ih=>
   intro s G t H;have hf:∀s∈all,∀t∈all,Hf (ap (r+d)) s t↔Hf (ap r) s t:=λs G t H=>by
    unfold Hf;constructor
    ·intro J k V;obtain⟨n,W,h2⟩:=J k V;exact⟨n,W,by rw [<-ih k (c.B0 G V) n (c.MT H W)];exact h2⟩
    ·intro J k V;obtain⟨n,W,h2⟩:=J k V;exact⟨n,W,by rw [ih k (c.B0 G V) n (c.MT H W)];exact h2⟩
   cases e:ap r s t with
   | some k=>exact zw e (d+1)
   | none=>
    have e2:ap (r+d) s t=none:=by rw [ih s G t H,e]
    have e3:=h s G t H;rw [e,fF e]at e3;show ap (r+d+1) s t=none;rw [fF e2];simp only [hf s G t H,hf t H s G];split at e3
    ·rename_i J;rw [Pd J]
    ·cases e3
 intro s G t H;unfold zK;split
 ·rename_i Z;have h2:=Z.choose_spec;generalize Z.choose=m at h2;cases e:ap m s t with
  | none=>exact absurd e h2
  | some k=>
   have h3:=zw e r;rw [RY,hd m s G t H]at h3;exact h3.symm
 ·rename_i Z;cases e:ap r s t with
  | none=>rfl
  | some k=>exact absurd ⟨r,by rw [e];simp⟩ Z
noncomputable def tolT (p q:Tx):Option (Tx×Tx):=match aV p,aV q with
 | some _,some _=>(bX p).bind λa=>(bX q).map λb=>(a,b)
 | _,_=>none
noncomputable def ly (p q:Tx):Bool×Bool:=match tolT p q with
 | none=>(false,false)
 | some x=>(decide (zK x.1 x.2=none),true)
end Go.Proofs.YtdecokaadekjnaaGreat
namespace Go.Proofs.YtdecokaadekjnaaGreat
open Go
attribute [go_sem] Tryz.f106
theorem nU (r1:Value)(G:aB)(w:World)(R:Value->Sg)(h:vc az (bf [(3,[(5,.v),(6,.i)]),(6,[(5,.v),(27,.i)])] [] [(5,true,.lt 0 (.lt 1 (.lt 2 (.lt 3 (.lt 4 (.lt 5 (.lt 6 (.lt 7 (.lt 10 (.one .n 8 (.lt 9 .done)))))))))))]) (ab Tryz.f106) (aj 0 [.v r1,.s G]) w (fin az [.tmp 4 .v] R)):
  Sh 106 #[r1,(.string (ai G))] w (aw [.v] R):=
 bE Tryz.func106 (by kernel_rfl) h
attribute [go_sem] Tryz.f58
theorem nW (r1:Value)(G:aB)(H:UInt8)(w:World)(R:UInt32->Sg)(h:vc az (bf [(3,[(7,.w),(14,.i)])] [] []) (ab Tryz.f58) (aj 0 [.v r1,.s G,.c H]) w (fin az [.tmp 6 .w] R)):
  Sh 58 #[r1,(.string (ai G)),(.int .u8 H.toNat)] w (aw [.w] R):=
 bE Tryz.func58 (by kernel_rfl) h
attribute [go_sem] Tryz.f156
theorem kU (n1:aB)(G:aB)(c3:Value)(w:World)(R:Bool->Sg)(h:vc az (bf [] [] []) (ab Tryz.f156) (aj 0 [.s n1,.s G,.v c3]) w (fin az [.tmp 5 .b] R)):
  Sh 156 #[(.string (ai n1)),(.string (ai G)),c3] w (aw [.b] R):=
 bE Tryz.func156 (by kernel_rfl) h
attribute [go_sem] Tryz.f158
theorem jh (G:aB)(c2:Value)(c3:Value)(w:World)(R:Bool->Sg)(h:vc az (bf [] [] []) (ab Tryz.f158) (aj 0 [.s G,.v c2,.v c3]) w (fin az [.tmp 4 .b] R)):
  Sh 158 #[(.string (ai G)),c2,c3] w (aw [.b] R):=
 bE Tryz.func158 (by kernel_rfl) h
attribute [go_sem] Tryz.f157
theorem kW (G:aB)(c2:Value)(c3:Value)(c4:Value)(w:World)(R:Bool->Sg)(h:vc az (bf [] [] []) (ab Tryz.f157) (aj 0 [.s G,.v c2,.v c3,.v c4]) w (fin az [.tmp 5 .b] R)):
  Sh 157 #[(.string (ai G)),c2,c3,c4] w (aw [.b] R):=
 bE Tryz.func157 (by kernel_rfl) h
theorem nh (t1:Value)(w:World)(R:Sg)(h:ay t1=true/\cc w (.cells #[t1] 70) λb2 w3=>cc w3 (Obj.map #[] 0) λb4 w5=>cc w5 (Obj.map #[] 0) λb6 w7=>cc w7 (.cells #[(.map none)] 57) λb8 w9=>ay (.map (some b6))=true/\fE w9 b8 0 (.map (some b6)) λw11=>bz w11 b2 0 λv12=>bH v12 λb13 o14=>bz w11 b13 ((o14+0)+1) λv15=>dO v15 λl17=>kG 0 w11 λI19 m20 μ φ=>bC (decide (μ< (l17:Int))) (cJ v15 μ λb23 o24=>qU φ b23 (o24+μ.toNat* 1) λψ=>iP φ λS28 w29=>dA S28 b2 0 λv30=>bH v30 λb31 o32=>dA S28 b2 0 λv33=>bH v33 λb34 o35=>N6 58 #[(.pointer (some ⟨b31,(o32+0),none⟩)),(.string (ai ψ)),(.int .u8 (UInt8.toNat 33))] w29 λm36 w37=>S28 w37/\N6 58 #[(.pointer (some ⟨b34,(o35+0),none⟩)),(.string (ai ψ)),(.int .u8 (UInt8.toNat 63))] w37 λm38 w39=>S28 w39/\∃(r40:Nat) (m41:Value->Option Value),(Value.map (some b4))= .map (some r40)/\IsMap w39 r40 .string m41/\∀w42:World,IsMap w42 r40 .string (bS m41 (.string (ai ψ)) (.agg #[(.int .u32 (UInt32.toNat m36)),(.int .u32 (UInt32.toNat m38))]))->bs w39 w42 r40->iP w42 λS43 w44=>dA S43 b8 0 λv45=>dA S43 b2 0 λv46=>bH v46 λb47 o48=>wO 106 #[(.pointer (some ⟨b47,(o48+0),none⟩)),(.string (ai ψ))] w44 λv49 w50=>S43 w50/\∃(r51:Nat) (m52:Value->Option Value),v45= .map (some r51)/\IsMap w50 r51 .string m52/\∀w53:World,IsMap w53 r51 .string (bS m52 (.string (ai ψ)) v49)->bs w50 w53 r51->a7 (μ+1)/\I19 (μ+1) w53/\m20 (μ+1) w53< m20 μ φ) (bz φ b2 0 λv54=>bH v54 λb55 o56=>bz φ b55 ((o56+0)+1) λv57=>dO v57 λl59=>kG 0 φ λI61 m62 ν χ=>bC (decide (ν< (l59:Int))) (cJ v57 ν λb65 o66=>qU χ b65 (o66+ν.toNat* 1) λs69=>bz χ b2 0 λv70=>bH v70 λb71 o72=>bz χ b71 ((o72+0)+1) λv73=>dO v73 λl75=>kG 0 χ λI77 m78 W J=>bC (decide (W< (l75:Int))) (cJ v73 W λb81 o82=>qU J b81 (o82+W.toNat* 1) λs85=>∃(r86:Nat) (m87:Value->Option Value),(Value.map (some b4))= .map (some r86)/\IsMap J r86 .string m87/\∃y88:Value,∃g89:Bool,((g89=true/\m87 (.string (ai s69))=some y88)\/(g89=false/\m87 (.string (ai s69))=none/\y88=(.agg #[(.int .u32 0),(.int .u32 0)])))/\∃(r90:Nat) (m91:Value->Option Value),(Value.map (some b4))= .map (some r90)/\IsMap J r90 .string m91/\∃y92:Value,∃g93:Bool,((g93=true/\m91 (.string (ai s85))=some y92)\/(g93=false/\m91 (.string (ai s85))=none/\y92=(.agg #[(.int .u32 0),(.int .u32 0)])))/\∃(x94 x95 y96 y97:UInt32),y88= .agg #[.int .u32 x94.toNat,.int .u32 x95.toNat]/\y92= .agg #[.int .u32 y96.toNat,.int .u32 y97.toNat]/\bC (!(decide (x94=y96)&&decide (x95=y97))) (bz J b2 0 λv98=>bH v98 λb99 o100=>bz J b99 (o100+5) λv101=>∃(ξ:Nat) (m103:Value->Option Value),v101= .map (some ξ)/\IsMap J ξ (TypeDesc.array 2 9) m103/\∀ο:World,IsMap ο ξ (TypeDesc.array 2 9) (bS m103 (.agg #[(.string (ai s69)),(.string (ai s85))]) (.int .i64 0))->bs J ο ξ->a7 (W+1)/\I77 (W+1) ο/\m78 (W+1) ο< m78 W J) (a7 (W+1)/\I77 (W+1) J/\m78 (W+1) J< m78 W J)) (a7 (ν+1)/\I61 (ν+1) J/\m62 (ν+1) J< m62 ν χ)) (cc χ (.cells #[.nilFunc] 24) λb105 w106=>ay (Value.func (Fn.func 156) #[] #[(.pointer (some ⟨b2,0,none⟩))])=true/\fE w106 b105 0 (Value.func (Fn.func 156) #[] #[(.pointer (some ⟨b2,0,none⟩))]) λw108=>kG 1 w108 λI109 m110 ζ w112=>cc w112 (.cells #[] 87) λb113 ω=>bz ω b2 0 λv115=>bH v115 λb116 o117=>bz ω b116 ((o117+0)+1) λv118=>dO v118 λl120=>wk ((.slice (some ⟨b113,0,none⟩) 0 0)) 0 ω λI122 m123 η Z α=>bC (decide (Z< (l120:Int))) (cJ v118 Z λb127 o128=>qU α b127 (o128+Z.toNat* 1) λθ=>bz α b2 0 λv132=>bH v132 λb133 o134=>bz α b133 ((o134+0)+1) λv135=>dO v135 λl137=>wk η 0 α λI139 γ H G β=>bC (decide (G< (l137:Int))) (cJ v135 G λb144 o145=>qU β b144 (o145+G.toNat* 1) λs148=>cc β (.cells #[(.string ⟨#[]⟩)] 9) λι w150=>fE w150 ι 0 (.string (ai s148)) λw152=>bz w152 b105 0 λv153=>qU w152 ι 0 λs154=>∃(f155:Nat) (c156:List Value),v153= .func (.func f155) #[] (List.toArray c156)/\hasR fY f155=true/\Dc f155 (List.toArray ([(.string (ai θ)),(.string (ai s154))]++c156)) w152 λq157 δ=>bC q157 (a7 (G+1)/\I139 H (G+1) δ/\γ H (G+1) δ< γ H G β) (bz δ b2 0 λv159=>bH v159 λb160 o161=>bz δ b160 ((o161+0)+2) λv162=>∃(r163:Nat) (m164:Value->Option Value),v162= .map (some r163)/\IsMap δ r163 .string m164/\∃y165:Value,∃g166:Bool,((g166=true/\m164 (.string (ai θ))=some y165)\/(g166=false/\m164 (.string (ai θ))=none/\y165=(.slice none 0 0)))/\Dc 47 #[y165,(Value.func (Fn.func 157) #[] #[(.pointer (some ⟨b8,0,none⟩)),(.pointer (some ⟨ι,0,none⟩)),(.pointer (some ⟨b105,0,none⟩))])] δ λq167 κ=>bC q167 (qU κ ι 0 λs169=>qU κ ι 0 λs170=>cc κ (.cells #[(.string (ai θ)),(.string (ai s169)),(.string (ai s170)),(.string (ai θ))] 87) λb171 w172=>iY 87 2 32 w172 H (.slice (some ⟨b171,0,none⟩) 2 2) λv178 w179=>a7 (G+1)/\I139 v178 (G+1) w179/\γ v178 (G+1) w179< γ H G β) (a7 (G+1)/\I139 H (G+1) κ/\γ H (G+1) κ< γ H G β))) (a7 (Z+1)/\I122 H (Z+1) β/\m123 H (Z+1) β< m123 η Z α)) (dO η λl181=>bC (decide ((l181:Int)=0)) (R α) (dO η λl184=>kG 0 α λI186 m187 V ε=>bC (decide (V< (l184:Int))) (cJ η V λb190 o191=>∃s194:aB,∃s195:aB,(World.cell? ε ⟨b190,(o191+V.toNat* 2),none⟩=some (.string (ai s194))/\World.cell? ε ⟨b190,((o191+V.toNat* 2)+1),none⟩=some (.string (ai s195))/\True)/\cc ε (.cells #[(.string ⟨#[]⟩),(.string ⟨#[]⟩)] 87) λb196 w197=>zk w197 b196 0 2 [(.string (ai s194)),(.string (ai s195))] λw198=>iP w198 λS199 w200=>dA S199 b2 0 λv201=>bH v201 λb202 o203=>dA S199 b202 (o203+5) λv204=>∃s205:aB,∃s206:aB,(∀w',S199 w'->World.cell? w' ⟨b196,0,none⟩=some (.string (ai s205))/\World.cell? w' ⟨b196,1,none⟩=some (.string (ai s206))/\True)/\∃(ς:Nat) (m208:Value->Option Value),v204= .map (some ς)/\IsMap w200 ς (TypeDesc.array 2 9) m208/\∀υ:World,IsMap υ ς (TypeDesc.array 2 9) (bS m208 (.agg #[(.string (ai s205)),(.string (ai s206))]) (.int .i64 ζ))->bs w200 υ ς->a7 (V+1)/\I186 (V+1) υ/\m187 (V+1) υ< m187 V ε) (a7 (ζ+1)/\I109 (ζ+1) ε/\m110 (ζ+1) ε< m110 ζ w112)))))):
  Sh 105 #[t1] w (aw [] R):=
 EK (bf [(3,[(27,.i)]),(9,[(58,.i)]),(12,[(68,.i)]),(21,[(11,.i)]),(23,[(12,.v),(98,.i)]),(26,[(12,.v),(108,.i)]),(35,[(141,.i)])] [] [(5,true,.lt 0 (.lt 1 (.lt 2 (.lt 3 (.lt 4 (.lt 5 (.lt 7 (.lt 8 (.lt 9 (.lt 10 (.one .g 6 (.one .g 11 (.lt 12 (.one .n 13 .done)))))))))))))),(6,true,.lt 0 (.lt 1 (.lt 2 (.lt 3 (.lt 4 (.lt 5 (.one .g 6 (.one .n 7 .done)))))))),(37,true,.lt 0 (.lt 1 (.lt 2 (.lt 3 (.lt 4 (.lt 5 (.one .n 6 .done)))))))]) [] [.v t1] Tryz.func105 (by kernel_rfl) h
theorem y6 (p1:aB)(q2:aB)(w:World)(R:Value->Bool->Sg)(h:xO 90 #[(.string (ai p1))] w λv3 q4 w5=>xO 90 #[(.string (ai q2))] w5 λv6 q7 w8=>Hb (!q4) (bC (!q7) (R (.pointer none) false w8) (iP w8 λS9 w10=>bH v3 λb11 o12=>EU S9 b11 (o12+0) λs13=>bH v6 λb14 o15=>EU S9 b14 (o15+0) λs16=>cc w10 (Obj.map #[] 0) λb17 w18=>S9 w18/\ay (.map (some b17))=true/\cc w18 (.cells #[(.string (ai [])),(.slice none 0 0),(.map none),(.string (ai s13)),(.string (ai s16)),(.map (some b17))] 77) λW w20=>S9 w20/\cc w20 (Obj.map #[] 0) λb21 w22=>ay (.map (some b21))=true/\fE w22 W 2 (.map (some b21)) λw24=>ay v3=true/\ay v6=true/\cc w24 (.cells #[v3,v6] 53) λb25 w26=>dO (.slice (some ⟨b25,0,none⟩) 2 2) λl28=>kG 0 w26 λI30 m31 ε ι=>bC (decide (ε< (l28:Int))) (cJ (.slice (some ⟨b25,0,none⟩) 2 2) ε λb34 o35=>bz ι b34 (o35+ε.toNat* 1) λv38=>bH v38 λb39 o40=>bz ι b39 (o40+1) λv41=>dO v41 λl43=>kG 0 ι λI45 m46 ζ Z=>bC (decide (ζ< (l43:Int))) (∃κ:Sg,(cJ v41 ζ λb50 o51=>qU Z b50 (o51+ζ.toNat* 1) λG=>bz Z W 2 λv55=>∃(r56:Nat) (m57:Value->Option Value),v55= .map (some r56)/\IsMap Z r56 .string m57/\∃y58:Value,∃g59:Bool,((g59=true/\m57 (.string (ai G))=some y58)\/(g59=false/\m57 (.string (ai G))=none/\y58=(.slice none 0 0)))/\bC (!g59) (iP Z λH ψ=>dA H W 2 λη=>dA H W 1 λv63=>bH v38 λb64 o65=>dA H b64 (o65+2) λv66=>(cc ψ (.cells #[(.string (ai G))] 9) λb67 μ=>H μ/\(iY 9 1 16 μ v63 (.slice (some ⟨b67,0,none⟩) 1 1) λv74 ω=>H ω/\∃(r76:Nat) (m77:Value->Option Value),v66= .map (some r76)/\IsMap ω r76 .string m77/\∃y78:Value,∃g79:Bool,((g79=true/\m77 (.string (ai G))=some y78)\/(g79=false/\m77 (.string (ai G))=none/\y78=(.slice none 0 0)))/\H ω/\ay v74=true/\fE ω W 1 v74 λw81=>∃(ν:Nat) (m83:Value->Option Value),η= .map (some ν)/\IsMap w81 ν .string m83/\∀(v84:Value) (s85:Int) (θ:World),IsMap θ ν .string (bS m83 (.string (ai G)) v84)->bs w81 θ ν->nL θ ν s85 (.string (ai G))->∃(ξ:Nat) (d88:TypeDesc) (m89:Value->Option Value) (q90:Value),η= .map (some ξ)/\IsMap θ ξ d88 m89/\nL θ ξ s85 q90/\∀w91:World,IsMap w91 ξ d88 (bS m89 q90 y78)->bs θ w91 ξ->κ w91)/\(∃(r92:Nat) (m93:Value->Option Value),v66= .map (some r92)/\IsMap μ r92 .string m93/\∃y94:Value,∃g95:Bool,((g95=true/\m93 (.string (ai G))=some y94)\/(g95=false/\m93 (.string (ai G))=none/\y94=(.slice none 0 0)))/\H μ/\iY 9 1 16 μ v63 (.slice (some ⟨b67,0,none⟩) 1 1) λv101 w102=>H w102/\ay v101=true/\fE w102 W 1 v101 λw104=>∃(α:Nat) (m106:Value->Option Value),η= .map (some α)/\IsMap w104 α .string m106/\∀(v107:Value) (s108:Int) (J:World),IsMap J α .string (bS m106 (.string (ai G)) v107)->bs w104 J α->nL J α s108 (.string (ai G))->∃(β:Nat) (d111:TypeDesc) (m112:Value->Option Value) (q113:Value),η= .map (some β)/\IsMap J β d111 m112/\nL J β s108 q113/\∀ο:World,IsMap ο β d111 (bS m112 q113 y94)->bs J ο β->κ ο))/\(∃(r115:Nat) (ς:Value->Option Value),v66= .map (some r115)/\IsMap ψ r115 .string ς/\∃υ:Value,∃g118:Bool,((g118=true/\ς (.string (ai G))=some υ)\/(g118=false/\ς (.string (ai G))=none/\υ=(.slice none 0 0)))/\H ψ/\cc ψ (.cells #[(.string (ai G))] 9) λb119 w120=>H w120/\iY 9 1 16 w120 v63 (.slice (some ⟨b119,0,none⟩) 1 1) λv126 w127=>H w127/\ay v126=true/\fE w127 W 1 v126 λw129=>∃(γ:Nat) (m131:Value->Option Value),η= .map (some γ)/\IsMap w129 γ .string m131/\∀(v132:Value) (s133:Int) (V:World),IsMap V γ .string (bS m131 (.string (ai G)) v132)->bs w129 V γ->nL V γ s133 (.string (ai G))->∃(δ:Nat) (d136:TypeDesc) (m137:Value->Option Value) (q138:Value),η= .map (some δ)/\IsMap V δ d136 m137/\nL V δ s133 q138/\∀φ:World,IsMap φ δ d136 (bS m137 q138 υ)->bs V φ δ->κ φ)) (κ Z))/\∀(χ:World),κ χ->a7 (ζ+1)/\I45 (ζ+1) χ/\m46 (ζ+1) χ< m46 ζ Z) (a7 (ε+1)/\I30 (ε+1) Z/\m31 (ε+1) Z< m31 ε ι)) (fC 105 #[(.pointer (some ⟨W,0,none⟩))] ι λw141=>R ((.pointer (some ⟨W,0,none⟩))) true w141))) (R (.pointer none) false w8)):
  Sh 57 #[(.string (ai p1)),(.string (ai q2))] w (aw [.v,.b] R):=
 EK (bf [(8,[(53,.i)]),(11,[(62,.i)])] [(16,[])] [(5,true,.lt 0 (.lt 1 (.lt 2 (.lt 3 (.lt 4 (.lt 5 (.lt 6 (.lt 7 (.one .g 8 (.lt 9 (.one .g 10 (.lt 11 .done)))))))))))),(15,true,.lt 0 (.lt 1 (.lt 2 (.lt 3 (.lt 4 (.lt 5 (.lt 6 (.lt 7 (.lt 8 (.lt 9 (.lt 10 (.lt 11 (.lt 12 (.lt 15 (.lt 16 (.lt 17 (.lt 18 (.lt 19 (.br .g 13 (.br .g 14 (.one .g 20 (.lt 21 (.lt 22 (.lt 23 (.one .n 24 (.one .n 25 (.lt 26 (.one .n 27 .done)))))))) (.one .g 20 (.one .g 14 (.lt 21 (.lt 22 (.lt 23 (.one .n 24 (.one .n 25 (.lt 26 (.one .n 27 .done)))))))))) (.one .g 20 (.one .g 13 (.one .g 14 (.lt 21 (.lt 22 (.lt 23 (.one .n 24 (.one .n 25 (.lt 26 (.one .n 27 .done)))))))))))))))))))))))))))))]) [.tmp 4 .v,.tmp 5 .b] [.s p1,.s q2] Tryz.func57 (by kernel_rfl) h
end Go.Proofs.YtdecokaadekjnaaGreat
namespace Go.Proofs.YtdecokaadekjnaaGreat
open Go Go.RowKit T Classical
structure MI (w:World)(b r:Nat)(all:List Tx)(mm:Value->Option Value):Prop where
 c2:w.cell? ⟨b,2,none⟩=some (.map (some r))
 lt:b< w.heap.size
 mp:IsMap w r .string mm
 nx:∀s∈all,∃v l,mm (.string (ai s))=some v/\sM s=some l/\(∀x∈l,x∈all)/\Strs w v l
theorem MI.ex {w w':World}{b r:Nat}{all:List Tx}{mm:Value->Option Value}(h:MI w b r all mm)(x:Ex w w'):MI w' b r all mm:=by
 have :=x.size;have :=h.lt;refine⟨by rw [x.cell (a:=⟨b,2,none⟩) h.lt];exact h.c2,by omega,aS h.mp (x.block r (bT h.mp)),λs G=>?_⟩;obtain⟨v,l,H,h2,J,h4⟩:=h.nx s G;exact⟨v,l,H,h2,J,h4.ex x⟩
theorem H0 {w:World}{b r:Nat}{all:List Tx}{mm:Value->Option Value}(h:MI w b r all mm)(hl:all.length<=120){s:Tx}(hs:s∈all){R:Value->Sg}
  (hR:∀v l w',Ex w w'->Own w.heap.size w' v l->(∀t,t∈l↔nP s t)->l.length<=120->R v w'):
  Sh 106 #[ptr b,.string (ai s)] w (aw [.v] R):=by
 refine nU _ s w R ?_;dsimp only [go_sem];dsimp only [go_sem,UInt8.reduceOfNat,UInt32.reduceOfNat,Nat.reduceAdd];intro b3 w4 ο μ;have x4:Ex w w4:=μ▸Ex.alloc w _;have hcl:Cl all:=λs hs=>by obtain⟨v,l,_,h2,h3,_⟩:=h.nx s hs;exact⟨l,h2,h3⟩
 refine⟨λo i w'=>∃(ol:List Tx) (j:Nat),i=j/\j<=ol.length/\Ex w w'/\Own w.heap.size w' o ol/\ol.Nodup/\(∀t∈ol,nP s t)/\s∈ol/\∀k (hk:k< ol.length),k< j->∀m∈B0 ol[k],m∈ol,λ _ i _=>(121 - i).toNat,
  ⟨[s],0,rfl,by simp,x4,Own.one (OL _) ο μ,by simp,λt W=>by cases OJ.1 W;exact .refl _,by simp,λk _ hk=>by omega⟩,λo i w9 hI=>?_⟩
 clear μ ο;obtain⟨ol,j,rfl,hj,x9,o9,ς,Z,υ,ζ⟩:=hI;have η:∀{l:List Tx},(∀t∈l,nP s t)->∀t∈l,t∈all:=λh t W=>hcl.MT hs (h t W)
 have θ:∀{l:List Tx},l.Nodup->(∀t∈l,nP s t)->l.length<=120:=λh1 h2=>by
  have :=h1.length_le_of_subset (η h2);omega
 have hol:=θ ς Z;obtain⟨a,cap,hv⟩:=o9.strs.slice;refine⟨a,_,cap,hv,λhlt=>?_,λhge=>?_⟩;rotate_left
 ·have e:=oE hge (by omega);refine hR o ol w9 x9 o9 (λt=>⟨Z t,λW=>?_⟩) hol
  induction W with
  | refl=>exact υ
  | step _ hu ih=>
   obtain⟨k,hk,rfl⟩:=Py.1 ih;exact ζ k hk (by omega) _ hu
 have ν:=oL hlt;obtain⟨bo,oo,co,e1,e2,e3⟩:=o9.strs.at ν;obtain⟨vn,l,hn1,φ,hn3,χ⟩:=h.nx _ (η Z _ (OK ν));have ψ:=yK φ;have hll:=pP φ;refine⟨λw'=>Ex w9 w',λw14 ι=>⟨ι▸Ex.drew w9,b,0,rfl,_,λw' x=>((h.ex x9).ex x).c2,bo,oo,_,co,e1,by omega,by omega,ol[j],λw' x=>?_,?_⟩⟩
 ·rw [x.cell (a:=⟨bo,_,none⟩) e2,Pg,OO];exact e3
 have ω:Ex w9 w14:=ι▸Ex.drew w9;have α:=Ex.trans x9 ω;have n14:=χ.ex α;obtain⟨al,capl,hvl⟩:=n14.slice;refine⟨r,mm,rfl,(h.ex α).mp,vn,true,.inl ⟨rfl,hn1⟩,al,_,capl,hvl,λo' x w'=>∃(G:List Tx) (i:Nat),x=i/\i<=l.length/\Ex w w'/\Own w.heap.size w' o' G/\G.Nodup/\(∀t∈G,nP s t)/\ol<+:G/\∀m∈l.take i,m∈G,λ _ x _=>(l.length - x).toNat,
  ⟨ol,0,rfl,Ps _,α,o9.ex ω,ς,Z,Rt _,by simp⟩,λo' x w34 hI=>?_⟩
 obtain⟨G,i,rfl,hi,β,γ,J,V,H,δ⟩:=hI;have hol':=θ J V;have hple:=H.length_le;refine⟨λhlt2=>?_,λhge2=>?_⟩;rotate_left
 ·have e:=oE hge2 (by omega);subst e;rw [O6]at δ;refine⟨by omega,⟨G,j+1,by omega,by omega,β,γ,J,V,H.subset υ,λk hk hkj m hm=>?_⟩,by show(121 - ((j:Int)+1)).toNat< (121 - (j:Int)).toNat;omega⟩;have hko:k< ol.length:=by omega
  have ek:G[k]=ol[k]:=(H.getElem hko).symm;rw [ek]at hm;by_cases ekj:k=j
  ·subst ekj;exact δ m (by rw [<-ψ];exact hm)
  ·exact H.subset (ζ k hko (by omega) m hm)
 have ε:=oL hlt2;have hm2:=@tN l.length i (by omega);have hrl:nP s l[i]:= .step (Z _ (OK ν)) (by rw [ψ];exact OK ε);refine(χ.ex β).get (Ex.refl _) (PN i) (gE ε) (Q:=λn=>_) (Es γ.strs (by omega) ⟨λhq b42 w43 hb42 κ=>?_,λhq=>?_⟩)
 ·have hq:l[i]∉G:=by simpa using hq
  have ξ:Ex w34 w43:=κ▸Ex.alloc w34 _;have s34:=β.size;have s43:=ξ.size;refine Own.push (γ.ex ξ) (by omega) (Strs.one hb42 κ) (by simp only [P0];omega) λv' w50 b50 o50 _ _=>⟨by omega,⟨G++[l[i]],i+1,by omega,by omega,Ex.below (Ex.trans β ξ) b50,o50,?_,λt W=>?_,H.trans (R6 _ _),λm hm=>?_⟩,hm2⟩
  ·exact Pj.2 ⟨J,by simp,λx hx y hy=>by cases OJ.1 hy;exact λe=>hq (e▸hx)⟩
  ·rcases OM.1 W with W | W
   ·exact V t W
   ·rw [OJ.1 W];exact hrl
  ·rw [OE ε]at hm;rcases OM.1 hm with hm | hm
   ·exact Pf _ (δ m hm)
   ·exact O9 _ hm
 ·have hq:l[i]∈G:=by simpa using hq
  refine⟨by omega,⟨G,i+1,by omega,by omega,β,γ,J,V,H,λm hm=>?_⟩,hm2⟩;rw [OE ε]at hm;rcases OM.1 hm with hm | hm
  ·exact δ m hm
  ·rw [OJ.1 hm];exact hq
theorem jP.or {x y:UInt32}{p q:UInt8->Prop}[DecidablePred p][DecidablePred q](h:jP x λc=>decide (p c))(k:jP y λc=>decide (q c)):jP (x ||| y) λc=>decide (p c\/q c):=by
 intro c hc;rw [AQ,QT.2 (EF _ _),Bool.decide_and,h c hc,k c hc];show(!decide (p c)&& !decide (q c))= !decide (p c\/q c);rw [Bool.decide_or,Bool.not_or]
theorem Mj {x y:UInt32}{f:Tk}(h:jP x f)(k:jP y f)(W:x.toNat< 67108864)(Z:y.toNat< 67108864):x=y:=by
 apply UInt32.toNat_inj.1;apply Nat.eq_of_testBit_eq;intro i;by_cases hi:i< 26
 ·have hc:lt (UInt8.ofNat (97+i))=true:=by
   have:∀i,i< 26->lt (UInt8.ofNat (97+i))=true:=by decide
   exact this i hi
  have e:(UInt8.ofNat (97+i)).toNat - 97=i:=by rw [PM];omega
  have key:∀z:UInt32,(z &&& ng (UInt8.ofNat (97+i))=0)↔z.toNat.testBit i=false:=λz=>by
   rw [<-UInt32.toNat_inj,UInt32.toNat_and,zY hc,e];show z.toNat &&& 2^i=0↔_;constructor
   ·intro H;have :=PL (λn=>n.testBit i) H;simpa [Nat.testBit_and,Nat.testBit_two_pow_self]using this
   ·intro H;apply Nat.eq_of_testBit_eq;intro j;rw [Nat.testBit_and,Nat.testBit_two_pow];by_cases J:i=j
    ·subst J;simp [H]
    ·simp [J]
  have h2:=QT.1 ((h _ hc).trans (k _ hc).symm);have V:=(key x).symm.trans (h2.trans (key y));cases e1:x.toNat.testBit i<;>cases e2:y.toNat.testBit i<;>rw [e1,e2]at V<;>first | rfl | (exact absurd V (by decide))
 ·have G:∀z:UInt32,z.toNat< 67108864->z.toNat.testBit i=false:=λz hz=>Nat.testBit_lt_two_pow (O5 hz (show 2^26<=2^i from Nat.pow_le_pow_right (by omega) (by omega)))
  rw [G x W,G y Z]
theorem Hg {w:World}{b r:Nat}{all:List Tx}{mm:Value->Option Value}(h:MI w b r all mm)(hl:all.length<=120)(α:∀s∈all,St s){s:Tx}(Z:s∈all){k:UInt8}(hk:k≠126){R:UInt32->Sg}
  (hR:∀x w',Ex w w'->jP x (λc=>decide (c∈p6 k s))->x.toNat< 67108864->R x w'):
  Sh 58 #[ptr b,.string (ai s),.int .u8 k.toNat] w (aw [.w] R):=by
 refine nW _ s k w R ?_;dsimp only [go_sem];dsimp only [go_sem,UInt8.reduceOfNat,UInt32.reduceOfNat,Nat.reduceAdd];have β:Cl all:=λs Z=>by obtain⟨v,l,_,h2,h3,_⟩:=h.nx s Z;exact⟨l,h2,h3⟩
 refine H0 h hl Z λv l w5 x5 o5 hm ζ=>?_
 obtain⟨a,cap,hv⟩:=o5.strs.slice;refine⟨a,_,cap,hv,λo x w'=>∃j:Nat,x=j/\j<=l.length/\Ex w5 w'/\o.toNat< 67108864/\jP o λc=>decide (∃t∈l.take j,c∈lV k t),λ _ x _=>(l.length - x).toNat,⟨0,rfl,Ps _,Ex.refl _,by decide,zZ λc ⟨t,ht,_⟩=>by simp at ht⟩,λo x γ hI=>?_⟩;obtain⟨j,rfl,hj,H,ho,J⟩:=hI;refine⟨λV=>?_,λδ=>?_⟩;rotate_left
 ·have e:=oE δ (by omega);rw [e,O6]at J;refine hR o γ (Ex.trans x5 H) (J.cg λc=>?_) ho;rw [DZ];exact⟨fun⟨t,G,h2⟩=>⟨t,(hm t).1 G,h2⟩,fun⟨t,G,h2⟩=>⟨t,(hm t).2 G,h2⟩⟩
 have W:=oL V;refine o5.strs.get H (PN j) (gE W) (Q:=λn=>_) ?_;obtain⟨t,ok,et⟩:=α _ (β.MT Z ((hm _).1 (OK W)));rw [<-et];have θ:=ok.size;have hlen:=ok.len;refine Dn ok.al (by omega) (by omega) λb1 w1 x1 hb st=>Kv ok st (λg hg=>hg.2.2) hk λw2 x2=>?_
 have V:∀c∈FC k t,lt c=true:=λc hc=>Gx ok.su ((EE ok.su).1 hc)
 have η:(FC k t).length<=26:=by
  have:nz.length=26:=by simp [nz]
  exact this▸QD _ _
 refine Ki V (by omega) λy hy ε=>⟨by omega,⟨j+1,by omega,by omega,Ex.trans H (Ex.trans x1 x2),KL ho ε,?_⟩,tN (by omega)⟩
 refine(J.or hy).cg λc=>?_
 rw [OE W,<-et];simp only [OM,OJ];constructor
 ·rintro(⟨u,G,h2⟩ | G)
  ·exact⟨u,.inl G,h2⟩
  ·exact⟨_,.inr rfl,by rw [yi ok];exact G⟩
 ·rintro⟨u,G | rfl,h2⟩
  ·exact .inl ⟨u,G,h2⟩
  ·rw [yi ok]at h2;exact .inr h2
abbrev tP:Nat:=87
abbrev aT:TypeDesc:= .array 2 9
def DX (s t:Tx):Value:= .agg #[.string (ai s),.string (ai t)]
theorem JL {s t G H:Tx}(h:DX s t=DX G H):s=G/\t=H:=by
 unfold DX at h;simp only [Value.agg.injEq,Array.mk.injEq,Px,QH,Rj]at h;exact⟨eP h.1,eP h.2⟩
structure Hp (w:World)(ra b r:Nat)(vo:Value)(all:List Tx)(mm:Value->Option Value):Prop where
 nm:MI w b r all mm
 c1:w.cell? ⟨b,1,none⟩=some vo
 so:Strs w vo all
 c5:w.cell? ⟨b,5,none⟩=some (.map (some ra))
 nb:b≠ra
 nr:r≠ra
 no:∀g,vo.ownBlock=some g->g≠ra
 nn:∀s∈all,∀v,mm (.string (ai s))=some v->∀g,v.ownBlock=some g->g≠ra
theorem Hp.kp {w w':World}{ra b r:Nat}{vo:Value}{all:List Tx}{mm:Value->Option Value}(h:Hp w ra b r vo all mm)(k:Kp w w' λg=>g=ra):Hp w' ra b r vo all mm:=by
 have s:=k.size;have lt:=h.nm.lt;have eb:=k.block b lt h.nb;have c:∀j,w'.cell? ⟨b,j,none⟩=w.cell? ⟨b,j,none⟩:=λj=>OB (w:=w) eb
 refine⟨⟨by rw [c];exact h.nm.c2,by omega,aS h.nm.mp (k.block r (bT h.nm.mp) h.nr),λx G=>?_⟩,by rw [c];exact h.c1,h.so.zI k h.no,by rw [c];exact h.c5,h.nb,h.nr,h.no,h.nn⟩;obtain⟨v,l,H,h2,J,h4⟩:=h.nm.nx x G;exact⟨v,l,H,h2,J,h4.zI k (h.nn x G v H)⟩
def ta (w:World)(ra:Nat)(all:List Tx)(P:Tx->Tx->Prop)(A:Tx->Tx->Option Nat):Prop:=
 ∃m,IsMap w ra aT m/\∀s∈all,∀t∈all,m (DX s t)=if P s t then(A s t).map iv else none
section
variable {w w':World} {ra:Nat} {all:List Tx} {P:Tx->Tx->Prop} {A:Tx->Tx->Option Nat}
theorem ta.ex (h:ta w ra all P A)(x:Ex w w'):ta w' ra all P A:=by
 obtain⟨m,G,h2⟩:=h;exact⟨m,aS G (x.block ra (bT G)),h2⟩
theorem ta.congr {G:Tx->Tx->Prop}{H:Tx->Tx->Option Nat}(h:ta w ra all P A)(e:∀s∈all,∀t∈all,(if P s t then(A s t).map iv else none)=if G s t then(H s t).map iv else none):ta w ra all G H:=by
 obtain⟨m,W,h2⟩:=h;exact⟨m,W,λs J t V=>by rw [h2 s J t V,e s J t V]⟩
theorem ta.set {m:Value->Option Value}(h:ta w ra all P A)(hm:IsMap w ra aT m){s t:Tx}{n:Nat}(G:IsMap w' ra aT (bS m (DX s t) (.int .i64 n))):ta w' ra all (λa b=>P a b\/a=s/\b=t) (λa b=>if a=s/\b=t then some n else A a b):=by
 obtain⟨m',H,h2⟩:=h;have e:m'=m:=(fH H).symm.trans (fH hm);subst e;refine⟨_,G,λa ha b hb=>?_⟩;unfold bS;by_cases e:a=s/\b=t
 ·obtain⟨rfl,rfl⟩:=e;rw [Pd rfl,Pd (.inr ⟨rfl,rfl⟩)];simp only [and_self,Qr,Qw]
 ·rw [OW λh=>e (JL h),h2 a ha b hb];simp only [e,QZ,Rg]
end
theorem NG {w:World}{b2 b ra:Nat}{m:Value->Option Value}{s t:Tx}{a:Option Nat}(H:w.cell? ⟨b2,0,none⟩=some (ptr b))(h5:w.cell? ⟨b,5,none⟩=some (.map (some ra)))(hm:IsMap w ra aT m)(G:m (DX s t)=a.map iv){R:Bool->Sg}(hR:R a.isSome w):
  Sh 156 #[.string (ai s),.string (ai t),ptr b2] w (aw [.b] R):=by
 refine kU s t _ w R ?_;dsimp only [go_sem];dsimp only [go_sem,UInt8.reduceOfNat,UInt32.reduceOfNat,Nat.reduceAdd];refine⟨b2,0,rfl,_,H,b,0,rfl,_,by rw [Pa];exact h5,ra,m,rfl,hm,?_⟩;cases a with
 | none=>exact⟨0,false,.inr ⟨rfl,G,rfl⟩,hR⟩
 | some n=>exact⟨n,true,.inl ⟨rfl,G⟩,hR⟩
structure KU (w:World)(ra b b2 b6 b8 b105:Nat)(all:List Tx)(mf:Value->Option Value)(A:Tx->Tx->Option Nat):Prop where
 h2:w.cell? ⟨b2,0,none⟩=some (ptr b)
 l2:b2< w.heap.size
 h5:w.cell? ⟨b,5,none⟩=some (.map (some ra))
 lb:b< w.heap.size
 ap:ta w ra all (λ _ _=>True) A
 h8:w.cell? ⟨b8,0,none⟩=some (.map (some b6))
 l8:b8< w.heap.size
 mq:IsMap w b6 .string mf
 fr:∀s∈all,∃v l,mf (.string (ai s))=some v/\Strs w v l/\(∀t,t∈l↔nP s t)/\l.length<=120
 hc:w.cell? ⟨b105,0,none⟩=some (.func (.func 156) #[] #[ptr b2])
 lc:b105< w.heap.size
theorem KU.ex {w w':World}{ra b b2 b6 b8 b105:Nat}{all:List Tx}{mf:Value->Option Value}{A:Tx->Tx->Option Nat}(h:KU w ra b b2 b6 b8 b105 all mf A)(x:Ex w w'):KU w' ra b b2 b6 b8 b105 all mf A:=by
 have s:=x.size;have :=h.l2;have :=h.lb;have :=h.l8;have :=h.lc;refine⟨by rw [x.cell (a:=⟨b2,0,none⟩) h.l2];exact h.h2,by omega,by rw [x.cell (a:=⟨b,5,none⟩) h.lb];exact h.h5,by omega,h.ap.ex x,by rw [x.cell (a:=⟨b8,0,none⟩) h.l8];exact h.h8,by omega,aS h.mq (x.block b6 (bT h.mq)),λt G=>?_,by rw [x.cell (a:=⟨b105,0,none⟩) h.lc];exact h.hc,by omega⟩;obtain⟨v,l,H,h2,J⟩:=h.fr t G;exact⟨v,l,H,h2.ex x,J⟩
theorem KU.is {w:World}{ra b b2 b6 b8 b105:Nat}{all:List Tx}{mf:Value->Option Value}{A:Tx->Tx->Option Nat}(h:KU w ra b b2 b6 b8 b105 all mf A){s t:Tx}(G:s∈all)(H:t∈all){R:Bool->Sg}(hR:R (A s t).isSome w):
  Sh 156 #[.string (ai s),.string (ai t),ptr b2] w (aw [.b] R):=by
 obtain⟨m,J,h2⟩:=h.ap;exact NG h.h2 h.h5 J (by rw [h2 s G t H,Pd trivial]) hR
theorem GN {α:Type}{a:Option α}{d:Decidable (a=none)}:@decide (a=none) d= !a.isSome:=by
 cases a
 ·exact PG rfl
 ·exact PT (by simp)
theorem Mr {w:World}{ra b b2 b6 b8 b105 G:Nat}{all:List Tx}{mf:Value->Option Value}{A:Tx->Tx->Option Nat}(h:KU w ra b b2 b6 b8 b105 all mf A){k l:Tx}(J:k∈all)(V:l∈all)(H:w.cell? ⟨G,0,none⟩=some (.string (ai k))){R:Bool->Sg}(hR:R (!(A k l).isSome) w):
  Sh 158 #[.string (ai l),ptr b105,ptr G] w (aw [.b] R):=by
 refine jh l _ _ w R ?_;dsimp only [go_sem];dsimp only [go_sem,UInt8.reduceOfNat,UInt32.reduceOfNat,Nat.reduceAdd];exact⟨b105,0,rfl,_,h.hc,G,0,rfl,k,H,156,[ptr b2],rfl,by kernel_rfl,h.is J V hR⟩
theorem dT {p:Prop}{d:Decidable p}(h:p):@decide p d=true:=PG h
theorem dF {p:Prop}{d:Decidable p}(h:¬p):@decide p d=false:=PT h
theorem Om {p:Prop}{d:Decidable p}(h:@decide p d=true):p:=O1 h
theorem Ov {p:Prop}{d:Decidable p}(h:@decide p d=false):¬p:=O4 h
def Nk (A:Tx->Tx->Option Nat)(m k:Tx):Prop:=¬∃n,nP m n/\A k n=none
theorem M8 {w:World}{ra b b2 b6 b8 b105 bm:Nat}{all:List Tx}{mf:Value->Option Value}{A:Tx->Tx->Option Nat}(h:KU w ra b b2 b6 b8 b105 all mf A)(V:Cl all){k m:Tx}(hk:k∈all)(hm:m∈all)(W:w.cell? ⟨bm,0,none⟩=some (.string (ai m)))(Z:bm< w.heap.size){R:Bool->Sg}(hR:∀w',Ex w w'->R (decide (Nk A m k)) w'):
  Sh 157 #[.string (ai k),ptr b8,ptr bm,ptr b105] w (aw [.b] R):=by
 refine kW k _ _ _ w R ?_;dsimp only [go_sem];dsimp only [go_sem,UInt8.reduceOfNat,UInt32.reduceOfNat,Nat.reduceAdd];intro b5 w6 α H;have x6:Ex w w6:=H▸Ex.alloc w _;have G:=h.ex x6;have s6:w6.heap.size=w.heap.size+1:=by rw [H,size_alloc]
 have c5:w6.cell? ⟨b5,0,none⟩=some (.string (ai k)):=by rw [H,α];exact aa rfl
 obtain⟨v,l,h1,h2,h3,h4⟩:=G.fr m hm;refine⟨b8,0,rfl,_,G.h8,bm,0,rfl,m,by rw [x6.cell (a:=⟨bm,0,none⟩) Z];exact W,b6,mf,rfl,G.mq,v,true,.inl ⟨rfl,h1⟩,?_⟩;refine Ho (ca:=[ptr b105,ptr b5]) h2 (by omega) (by kernel_rfl) (λn=>A k n=none) (λn hn w' Q x hQ=>?_) λw' x=>?_
 ·refine Mr (G.ex x) hk (V.MT hm ((h3 n).1 hn)) (by rw [x.cell (a:=⟨b5,0,none⟩) (show b5< _ by omega)];exact c5) ?_;have :=hQ w' (Ex.refl _)
  rwa [GN]at this
 ·have :=hR w' (Ex.trans x6 x);have e:(∃s∈l,A k s=none)↔∃n,nP m n/\A k n=none:=⟨fun⟨n,h5,G⟩=>⟨n,(h3 n).1 h5,G⟩,fun⟨n,h5,G⟩=>⟨n,(h3 n).2 h5,G⟩⟩
  by_cases J:∃s∈l,A k s=none
  ·rw [dF (λhn:Nk A m k=>hn (e.1 J))]at this;rw [dT J];exact this
  ·rw [dT (show Nk A m k from λh=>J (e.2 h))]at this;rw [dF J];exact this
def B2 (L:List (Tx×Tx)):List Value:=L.flatMap λp=>[sv p.1,sv p.2]
theorem D7 (L:List (Tx×Tx)):(B2 L).length=L.length* 2:=by
 unfold B2
 induction L with
 | nil=>rfl
 | cons p L G=>rw [Qc,OG,G,OA];simp only [OA,OS];omega
theorem DT:∀{L:List (Tx×Tx)} {i:Nat} (h:i< L.length),(B2 L)[i* 2]?=some (sv L[i].1)/\(B2 L)[i* 2+1]?=some (sv L[i].2)
 | p::L,0,_=>⟨rfl,rfl⟩
 | p::L,i+1,h=>by
  have h':i< L.length:=by simpa using h
  obtain⟨G,h2⟩:=DT h';have e:B2 (p::L)=sv p.1::sv p.2::B2 L:=rfl;rw [e,show(i+1)* 2=i* 2+1+1 by omega];exact⟨G,h2⟩
def gn (B:Nat)(w:World)(v:Value)(L:List (Tx×Tx)):Prop:=w.ownsRow B tP 2 v L.length (B2 L)
theorem gn.ex {B:Nat}{w w':World}{v:Value}{L:List (Tx×Tx)}(h:gn B w v L)(x:Ex w w'):gn B w' v L:=by
 refine⟨h.1,?_⟩;rcases h.2 with H | ⟨g,cap,cur,rfl,hb,G,rest⟩
 ·exact .inl H
 ·exact .inr ⟨g,cap,cur,rfl,hb,by rw [x.block g (Pk.1 G).1];exact G,rest⟩
theorem gn.kp {B:Nat}{w w':World}{S:Nat->Prop}{v:Value}{L:List (Tx×Tx)}(h:gn B w v L)(x:Kp w w' S)(H:∀g,B<=g->¬S g):gn B w' v L:=by
 refine⟨h.1,?_⟩;rcases h.2 with J | ⟨g,cap,cur,rfl,hb,G,rest⟩
 ·exact .inl J
 ·exact .inr ⟨g,cap,cur,rfl,hb,by rw [x.block g (Pk.1 G).1 (H g hb)];exact G,rest⟩
theorem gn.slice {B:Nat}{w:World}{v:Value}{L:List (Tx×Tx)}(h:gn B w v L):∃a cap,v= .slice a L.length cap:=by
 rcases h.2 with⟨G,H⟩ | ⟨g,cap,cur,rfl,_⟩
 ·exact⟨_,_,by rw [G,H]⟩
 ·exact⟨_,_,rfl⟩
theorem gn.block {B:Nat}{w:World}{v:Value}{L:List (Tx×Tx)}(h:gn B w v L):∀g,v.ownBlock=some g->B<=g/\g< w.heap.size:=Rr h
theorem gn.at {B:Nat}{w:World}{v:Value}{L:List (Tx×Tx)}(h:gn B w v L){i:Nat}(hi:i< L.length):∃g cap,v= .slice (some ⟨g,0,none⟩) L.length cap/\w.cell? ⟨g,0+(i:Int).toNat* 2,none⟩=some (sv L[i].1)/\w.cell? ⟨g,0+(i:Int).toNat* 2+1,none⟩=some (sv L[i].2):=by
 rcases h.2 with⟨V,W⟩ | ⟨g,cap,cur,rfl,hb,G,Z,h2,h3,h4⟩
 ·omega
 ·have key:∀j u,(B2 L)[j]?=some u->w.cell? ⟨g,j,none⟩=some u:=λj u hu=>by
   have hj:j< (B2 L).length:=(Pw.1 hu).1;unfold World.cell?;simp only [G];rw [<-h4,Qh (by rw [D7]at hj;exact hj),Qe]at hu;exact hu
  obtain⟨H,J⟩:=DT hi;refine⟨g,cap,rfl,?_,?_⟩
  ·rw [show 0+(i:Int).toNat* 2=i* 2 by omega];exact key _ _ H
  ·rw [show 0+(i:Int).toNat* 2+1=i* 2+1 by omega];exact key _ _ J
theorem gn.M5 {w w':World}{B b:Nat}(hB:B<=w.heap.size)(hb:b=w.heap.size)(h:w'=w.alloc (.cells #[] tP)):gn B w' (.slice (some ⟨b,0,none⟩) 0 0) []:=by
 subst hb h;refine⟨rfl,.inr ⟨_,0,#[],rfl,hB,?_,by simp,by unfold maxLen;omega,rfl,rfl⟩⟩;unfold World.alloc;simp
theorem gn.push {B b:Nat}{w w1:World}{v:Value}{L:List (Tx×Tx)}(h:gn B w v L)(hB:B<=w.heap.size){n m:Tx}(hb:b=w.heap.size)(G:w1=w.alloc (.cells #[sv n,sv m,sv m,sv n] tP))(hl:L.length<=1000000000){K:Value->Sg}
  (J:∀v' w',gn B w' v' (L++[(n,m),(m,n)])->Below B w1 w'->K v' w'):iY tP 2 32 w1 v (.slice (some ⟨b,0,none⟩) 2 2) K:=by
 have H:Ex w w1:=G▸Ex.alloc w _;have s1:=H.size;refine⟨B,L.length,2,B2 L,B2 [(n,m),(m,n)],h.ex H,by omega,⟨by rw [D7];rfl,rfl,.inr ⟨b,0,2,rfl,λj u hu=>?_⟩⟩,⟨by unfold maxLen;omega,by omega⟩,λv' w' V W hn=>J v' w' ?_ ?_⟩
 ·rw [Pa,G,hb];exact aa (by rw [<-hu];simp [B2])
 ·have e:B2 (L++[(n,m),(m,n)])=B2 L++B2 [(n,m),(m,n)]:=by unfold B2;rw [PX]
  unfold gn;rw [OG,e];exact V
 ·exact Kp.below (Kp.aK W λ _ h=>h) (by omega) λg Z e=>by have :=(h.block g e).1;omega
theorem D6 {x y:UInt32}{k:UInt8}{s t:Tx}(h:jP x λc=>decide (c∈p6 k s))(h':jP y λc=>decide (c∈p6 k t))(G:x.toNat< 67108864)(H:y.toNat< 67108864):x=y↔p6 k s=p6 k t:=by
 constructor
 ·rintro rfl
  refine tj (y8 _ _) (y8 _ _) λc=>?_
  by_cases hc:lt c=true
  ·have :=(h c hc).symm.trans (h' c hc);simpa using this
  ·exact⟨λe=>absurd (C3 e) hc,λe=>absurd (C3 e) hc⟩
 ·intro e;rw [e]at h;exact Mj h h' G H
def Pr (all:List Tx)(j i:Nat)(a b:Tx):Prop:=(a∈all.take j/\b∈all)\/(all[j]?=some a/\b∈all.take i)
theorem sR {all:List Tx}{j:Nat}{a b:Tx}:Pr all j 0 a b↔a∈all.take j/\b∈all:=by unfold Pr;simp
theorem Gw {all:List Tx}{j:Nat}(h:j< all.length){a b:Tx}:Pr all j all.length a b↔Pr all (j+1) 0 a b:=by
 rw [sR];unfold Pr;rw [O6,OE h,OC h,OM,OJ];constructor
 ·rintro(⟨G,h2⟩ | ⟨G,h2⟩)
  ·exact⟨.inl G,h2⟩
  ·exact⟨.inr (Pu G).symm,h2⟩
 ·rintro⟨G | G,h2⟩
  ·exact .inl ⟨G,h2⟩
  ·exact .inr ⟨by rw [G],h2⟩
theorem sJ {all:List Tx}{j i:Nat}(hj:j< all.length)(hi:i< all.length){a b:Tx}:Pr all j (i+1) a b↔Pr all j i a b\/a=all[j]/\b=all[i]:=by
 unfold Pr;rw [OE hi,OC hj,OM,OJ];constructor
 ·rintro(h | ⟨G,h2 | h2⟩)
  ·exact .inl (.inl h)
  ·exact .inl (.inr ⟨G,h2⟩)
  ·exact .inr ⟨(Pu G).symm,h2⟩
 ·rintro((h | ⟨G,h2⟩) | ⟨G,h2⟩)
  ·exact .inl h
  ·exact .inr ⟨G,.inl h2⟩
  ·exact .inr ⟨by rw [G],.inr h2⟩
theorem Iv {all:List Tx}{a b:Tx}:Pr all all.length 0 a b↔a∈all/\b∈all:=by rw [sR,O6]
def Im (all:List Tx):List (Tx×Tx):=all.flatMap λs=>all.map λt=>(s,t)
theorem zz {all:List Tx}{s t:Tx}:(s,t)∈Im all↔s∈all/\t∈all:=by
 unfold Im;simp [Pz]
theorem Eo {all:List Tx}(h:all.length<=120):(Im all).length<=14400:=by
 have key:∀l:List Tx,(l.flatMap λs=>all.map λt=>(s,t)).length=l.length* all.length:=by
  intro l
  induction l with
  | nil=>simp
  | cons x l G=>rw [Qc,OG,G,O3,OA,Nat.add_mul,Nat.one_mul,RY]
 unfold Im;rw [key];have :=RO h h;omega
noncomputable def uv (all:List Tx)(A:Tx->Tx->Option Nat):Nat:=(Im all).countP λp=>decide (A p.1 p.2=none)
theorem wI {α:Type}{p q:α->Bool}{l:List α}(h:∀x∈l,p x=true->q x=true){y:α}(G:y∈l)(W:q y=true)(h2:p y=false):l.countP p< l.countP q:=by
 induction l with
 | nil=>cases G
 | cons x l Z=>
  have hle:l.countP p<=l.countP q:=List.countP_mono_left λz H=>h z (OU _ H)
  rcases OY.1 G with rfl | G
  ·rw [List.countP_cons_of_neg (by rw [h2];simp),Rv W];omega
  ·have :=Z (λz H=>h z (OU _ H)) G;by_cases J:p x=true
   ·rw [Rv J,Rv (h x (by simp) J)];omega
   ·rw [List.countP_cons_of_neg J];by_cases V:q x=true
    ·rw [Rv V];omega
    ·rw [List.countP_cons_of_neg V];omega
theorem ta.cnt {w:World}{ra:Nat}{all:List Tx}{A:Tx->Tx->Option Nat}(h:ta w ra all (λ _ _=>True) A):((Im all).countP λp=>decide (B6 w ra (DX p.1 p.2)=none))=uv all A:=by
 obtain⟨m,G,h2⟩:=h;unfold uv;refine List.countP_congr λp H=>?_
 obtain⟨J,V⟩:=zz.1 H;rw [fH G,h2 _ J _ V,Pd trivial];cases A p.1 p.2<;>simp
def CX (all:List Tx)(A:Tx->Tx->Option Nat)(P:Tx->Tx->Prop)(L:List (Tx×Tx)):Prop:=
 ∀s t,(s,t)∈L↔∃a b,P a b/\A a b=none/\¬Hf A a b/\((s=a/\t=b)\/(s=b/\t=a))
theorem CX.congr {all:List Tx}{A:Tx->Tx->Option Nat}{P G:Tx->Tx->Prop}{L:List (Tx×Tx)}(h:CX all A P L)(e:∀a b,P a b↔G a b):CX all A G L:=λs t=>by
 rw [h s t];simp only [e]
theorem CX.add {all:List Tx}{A:Tx->Tx->Option Nat}{P:Tx->Tx->Prop}{L:List (Tx×Tx)}(h:CX all A P L){n m:Tx}(V:A n m=none)(h2:¬Hf A n m):CX all A (λa b=>P a b\/a=n/\b=m) (L++[(n,m),(m,n)]):=λs t=>by
 rw [OM,h s t];constructor
 ·rintro(⟨a,b,G,H⟩ | k)
  ·exact⟨a,b,.inl G,H⟩
  ·simp only [OY,Prod.mk.injEq,Qz,QZ]at k;exact⟨n,m,.inr ⟨rfl,rfl⟩,V,h2,k⟩
 ·rintro⟨a,b,G | ⟨rfl,rfl⟩,H,W,J⟩
  ·exact .inl ⟨a,b,G,H,W,J⟩
  ·right;simp only [OY,Prod.mk.injEq,Qz,QZ];exact J
theorem CX.skip {all:List Tx}{A:Tx->Tx->Option Nat}{P:Tx->Tx->Prop}{L:List (Tx×Tx)}(h:CX all A P L){n m:Tx}(V:¬(A n m=none/\¬Hf A n m)):CX all A (λa b=>P a b\/a=n/\b=m) L:=λs t=>by
 rw [h s t];constructor
 ·rintro⟨a,b,H,G⟩;exact⟨a,b,.inl H,G⟩
 ·rintro⟨a,b,H | ⟨rfl,rfl⟩,G,J,W⟩
  ·exact⟨a,b,H,G,J,W⟩
  ·exact absurd ⟨G,J⟩ V
theorem BA {all:List Tx}{r:Nat}{L:List (Tx×Tx)}(h:CX all (ap r) (λa b=>a∈all/\b∈all) L){s t:Tx}(H:s∈all)(J:t∈all):(if(s,t)∈L then some (r+1)else ap r s t)=ap (r+1) s t:=by
 by_cases hm:(s,t)∈L
 ·rw [Pd hm];obtain⟨a,b,_,V,W,Z⟩:=(h s t).1 hm;rcases Z with⟨rfl,rfl⟩ | ⟨rfl,rfl⟩
  ·rw [fF V,OW λe=>W e.1]
  ·rw [fF (by rw [xR];exact V),OW λe=>W e.2]
 ·rw [OW hm];cases e:ap r s t with
  | some k=>exact(jJ e).symm
  | none=>
   rw [fF e,Pd];constructor
   ·exact PE λG=>hm ((h s t).2 ⟨s,t,⟨H,J⟩,e,G,.inl ⟨rfl,rfl⟩⟩)
   ·exact PE λG=>hm ((h s t).2 ⟨t,s,⟨J,H⟩,by rw [xR];exact e,G,.inr ⟨rfl,rfl⟩⟩)
theorem HG {all:List Tx}{r:Nat}{L:List (Tx×Tx)}(h:CX all (ap r) (λa b=>a∈all/\b∈all) L)(H:L≠[]):uv all (ap (r+1))< uv all (ap r):=by
 obtain⟨⟨s,t⟩,hm⟩:=List.exists_mem_of_ne_nil _ H;obtain⟨a,b,⟨ha,hb⟩,J,V,W⟩:=(h s t).1 hm;refine wI (y:=(a,b)) (λp _ G=>?_) (zz.2 ⟨ha,hb⟩) (by simpa using J) ?_
 ·have G:ap (r+1) p.1 p.2=none:=by simpa using G
  cases e:ap r p.1 p.2 with
  | none=>simp [e]
  | some k=>rw [jJ e]at G;cases G
 ·have:ap (r+1) a b=some (r+1):=by rw [fF J,OW λe=>V e.1]
  simp [this]
structure R1 (w:World)(ra Q b b2 b4 b6 b8:Nat)(Pb Pq:Tx->Prop)(w':World):Prop where
 kp:Kp w w' λg=>g=ra
 lra:ra< w.heap.size
 l2:w.heap.size<=b2/\b2< Q
 l4:w.heap.size<=b4/\b4< Q
 l6:w.heap.size<=b6/\b6< Q
 l8:w.heap.size<=b8/\b8< Q
 lq:Q<=w'.heap.size
 n24:b2≠b4
 n26:b2≠b6
 n84:b8≠b4
 n86:b8≠b6
 n46:b4≠b6
 c2:w'.cell? ⟨b2,0,none⟩=some (ptr b)
 c8:w'.cell? ⟨b8,0,none⟩=some (.map (some b6))
 mb:∃m,IsMap w' b4 .string m/\∀s,Pb s->∃x y:UInt32,m (.string (ai s))=some (.agg #[.int .u32 x.toNat,.int .u32 y.toNat])/\(jP x λc=>decide (c∈p6 33 s))/\x.toNat< 67108864/\(jP y λc=>decide (c∈p6 63 s))/\y.toNat< 67108864
 mq:∃m,IsMap w' b6 .string m/\∀s,Pq s->∃v l,m (.string (ai s))=some v/\Strs w' v l/\(∀t,t∈l↔nP s t)/\l.length<=120/\∀g,v.ownBlock=some g->Q<=g
section
variable {w w1 w2:World} {ra Q b b2 b4 b6 b8:Nat} {Pb Pq:Tx->Prop}
theorem R1.to (h:R1 w ra Q b b2 b4 b6 b8 Pb Pq w1)(k:Kp w1 w2 λg=>g=ra):R1 w ra Q b b2 b4 b6 b8 Pb Pq w2:=by
 have s:=k.size;have lra:=h.lra;obtain⟨l2,J⟩:=h.l2;obtain⟨l4,V⟩:=h.l4;obtain⟨l6,W⟩:=h.l6;obtain⟨l8,Z⟩:=h.l8;have lq:=h.lq;refine⟨Kp.trans h.kp k λ _ _ h=>h,h.lra,h.l2,h.l4,h.l6,h.l8,by omega,h.n24,h.n26,h.n84,h.n86,h.n46,by rw [OB (w:=w1) (k.block b2 (by omega) (by omega))];exact h.c2,by rw [OB (w:=w1) (k.block b8 (by omega) (by omega))];exact h.c8,?_,?_⟩
 ·obtain⟨m,G,h2⟩:=h.mb;exact⟨m,aS G (k.block b4 (by omega) (by omega)),h2⟩
 ·obtain⟨m,G,h2⟩:=h.mq;refine⟨m,aS G (k.block b6 (by omega) (by omega)),λt ht=>?_⟩;obtain⟨v,l,k1,k2,k3,k4,H⟩:=h2 t ht;exact⟨v,l,k1,k2.zI k λg hg e=>by have :=H g hg;omega,k3,k4,H⟩
theorem R1.ex (h:R1 w ra Q b b2 b4 b6 b8 Pb Pq w1)(x:Ex w1 w2):R1 w ra Q b b2 b4 b6 b8 Pb Pq w2:=h.to (Kp.af x _)
theorem R1.NL (h:R1 w ra Q b b2 b4 b6 b8 Pb Pq w1){m:Value->Option Value}(hm:IsMap w1 b4 .string m){s:Tx}{x y:UInt32}(G:IsMap w2 b4 .string (bS m (.string (ai s)) (.agg #[.int .u32 x.toNat,.int .u32 y.toNat])))(k:bs w1 w2 b4)
  (hx:jP x λc=>decide (c∈p6 33 s)) (H:x.toNat< 67108864) (hy:jP y λc=>decide (c∈p6 63 s)) (J:y.toNat< 67108864):R1 w ra Q b b2 b4 b6 b8 (λt=>Pb t\/t=s) Pq w2:=by
 have kp:=Kp.jR k;have s1:=k.size;obtain⟨l4,α⟩:=h.l4;have lq:=h.lq;refine⟨Kp.trans h.kp kp λg Z e=>by omega,h.lra,h.l2,h.l4,h.l6,h.l8,by omega,h.n24,h.n26,h.n84,h.n86,h.n46,by rw [OB (w:=w1) (k.block b2 h.n24)];exact h.c2,by rw [OB (w:=w1) (k.block b8 h.n84)];exact h.c8,⟨_,G,λt V=>?_⟩,?_⟩
 ·obtain⟨m',W,h2⟩:=h.mb;have e:m'=m:=(fH W).symm.trans (fH hm);subst e;unfold bS;by_cases e:t=s
  ·subst e;exact⟨x,y,by rw [Pd rfl],hx,H,hy,J⟩
  ·rw [OW λh=>e (eP (Ru h))];exact h2 t (V.resolve_right e)
 ·obtain⟨m,W,h2⟩:=h.mq;refine⟨m,aS W (k.block b6 h.n46.symm),λt V=>?_⟩;obtain⟨v,l,k1,k2,k3,k4,k5⟩:=h2 t V;exact⟨v,l,k1,k2.zI kp λg Z e=>by have :=k5 g Z;omega,k3,k4,k5⟩
theorem R1.N2 (h:R1 w ra Q b b2 b4 b6 b8 Pb Pq w1){m:Value->Option Value}(hm:IsMap w1 b6 .string m){s:Tx}{v:Value}{l:List Tx}(H:IsMap w2 b6 .string (bS m (.string (ai s)) v))(k:bs w1 w2 b6)
  (Z:Strs w1 v l) (hr:∀t,t∈l↔nP s t) (hl:l.length<=120) (V:∀g,v.ownBlock=some g->Q<=g):R1 w ra Q b b2 b4 b6 b8 Pb (λt=>Pq t\/t=s) w2:=by
 have kp:=Kp.jR k;have s1:=k.size;obtain⟨l6,α⟩:=h.l6;have lq:=h.lq;refine⟨Kp.trans h.kp kp λg G e=>by omega,h.lra,h.l2,h.l4,h.l6,h.l8,by omega,h.n24,h.n26,h.n84,h.n86,h.n46,by rw [OB (w:=w1) (k.block b2 h.n26)];exact h.c2,by rw [OB (w:=w1) (k.block b8 h.n86)];exact h.c8,?_,⟨_,H,λt ht=>?_⟩⟩
 ·obtain⟨m,J,h2⟩:=h.mb;exact⟨m,aS J (k.block b4 h.n46),h2⟩
 ·obtain⟨m',J,h2⟩:=h.mq;have e:m'=m:=(fH J).symm.trans (fH hm);subst e;unfold bS;by_cases e:t=s
  ·subst e;exact⟨v,l,by rw [Pd rfl],Z.zI kp λg G e=>by have :=V g G;omega,hr,hl,V⟩
  ·rw [OW λh=>e (eP (Ru h))];obtain⟨v,l,k1,k2,k3,k4,W⟩:=h2 t (ht.resolve_right e);exact⟨v,l,k1,k2.zI kp λg G e=>by have :=W g G;omega,k3,k4,W⟩
theorem R1.mono {G H:Tx->Prop}(h:R1 w ra Q b b2 b4 b6 b8 Pb Pq w1)(hb:∀s,G s->Pb s)(V:∀s,H s->Pq s):R1 w ra Q b b2 b4 b6 b8 G H w1:=by
 obtain⟨m,W,h2⟩:=h.mb;obtain⟨m',Z,h4⟩:=h.mq;exact⟨h.kp,h.lra,h.l2,h.l4,h.l6,h.l8,h.lq,h.n24,h.n26,h.n84,h.n86,h.n46,h.c2,h.c8,⟨m,W,λs J=>h2 s (hb s J)⟩,m',Z,λs J=>h4 s (V s J)⟩
end
theorem R1.fn {w w':World}{ra Q b r b2 b4 b6 b8 b105:Nat}{vo:Value}{all:List Tx}{mm:Value->Option Value}{A:Tx->Tx->Option Nat}(h:R1 w ra Q b b2 b4 b6 b8 (λs=>s∈all) (λs=>s∈all) w')(hb:Hp w' ra b r vo all mm)(ha:ta w' ra all (λ _ _=>True) A)(hc:w'.cell? ⟨b105,0,none⟩=some (.func (.func 156) #[] #[ptr b2]))(lc:b105< w'.heap.size):
  ∃mf,KU w' ra b b2 b6 b8 b105 all mf A:=by
 obtain⟨m,G,h2⟩:=h.mq;have lq:=h.lq;refine⟨m,h.c2,by have :=h.l2;omega,hb.c5,hb.nm.lt,ha,h.c8,by have :=h.l8;omega,G,λs H=>?_,hc,lc⟩;obtain⟨v,l,J,V,W,Z,_⟩:=h2 s H;exact⟨v,l,J,V,W,Z⟩
structure La (w:World)(ra Q b r b2 b4 b6 b8 b105:Nat)(vo:Value)(all:List Tx)(mm:Value->Option Value)(w':World):Prop where
 r1:R1 w ra Q b b2 b4 b6 b8 (λs=>s∈all) (λs=>s∈all) w'
 bo:Hp w' ra b r vo all mm
 hc:w'.cell? ⟨b105,0,none⟩=some (.func (.func 156) #[] #[ptr b2])
 lc:b105< w'.heap.size
 nc:b105≠ra
theorem La.to {w w1 w2:World}{ra Q b r b2 b4 b6 b8 b105:Nat}{vo:Value}{all:List Tx}{mm:Value->Option Value}(h:La w ra Q b r b2 b4 b6 b8 b105 vo all mm w1)(k:Kp w1 w2 λg=>g=ra):La w ra Q b r b2 b4 b6 b8 b105 vo all mm w2:=by
 have s:=k.size;have :=h.lc;exact⟨h.r1.to k,h.bo.kp k,by rw [OB (w:=w1) (k.block b105 h.lc h.nc)];exact h.hc,by omega,h.nc⟩
theorem La.ex {w w1 w2:World}{ra Q b r b2 b4 b6 b8 b105:Nat}{vo:Value}{all:List Tx}{mm:Value->Option Value}(h:La w ra Q b r b2 b4 b6 b8 b105 vo all mm w1)(x:Ex w1 w2):La w ra Q b r b2 b4 b6 b8 b105 vo all mm w2:=h.to (Kp.af x _)
theorem Fx {w w108:World}{ra Q b r b2 b4 b6 b8 b105:Nat}{vo:Value}{all:List Tx}{mm:Value->Option Value}(hcl:Cl all)(hl:all.length<=120)(hS:La w ra Q b r b2 b4 b6 b8 b105 vo all mm w108)(hA:ta w108 ra all (λ _ _=>True) (ap 0)){R:Sg}
  (hR:∀w',Kp w w' (λg=>g=ra)->Hp w' ra b r vo all mm->ta w' ra all (λ _ _=>True) zK->R w'):
  kG 1 w108 λI109 m110 ψ G=>cc G (.cells #[] tP) λb113 ν=>bz ν b2 0 λv115=>bH v115 λb116 o117=>bz ν b116 ((o117+0)+1) λv118=>dO v118 λl120=>wk ((.slice (some ⟨b113,0,none⟩) 0 0)) 0 ν λI122 m123 ω η β=>bC (decide (η< (l120:Int))) (cJ v118 η λb127 o128=>qU β b127 (o128+η.toNat* 1) λs131=>bz β b2 0 λv132=>bH v132 λb133 o134=>bz β b133 ((o134+0)+1) λv135=>dO v135 λl137=>wk ω 0 β λI139 ξ γ H Z=>bC (decide (H< (l137:Int))) (cJ v135 H λb144 o145=>qU Z b144 (o145+H.toNat* 1) λs148=>cc Z (.cells #[(.string ⟨#[]⟩)] 9) λJ θ=>fE θ J 0 (.string (ai s148)) λε=>bz ε b105 0 λv153=>qU ε J 0 λs154=>∃(f155:Nat) (c156:List Value),v153= .func (.func f155) #[] (List.toArray c156)/\hasR fY f155=true/\Dc f155 (List.toArray ([(.string (ai s131)),(.string (ai s154))]++c156)) ε λq157 ο=>bC q157 (a7 (H+1)/\I139 γ (H+1) ο/\ξ γ (H+1) ο< ξ γ H Z) (bz ο b2 0 λv159=>bH v159 λb160 o161=>bz ο b160 ((o161+0)+2) λv162=>∃(r163:Nat) (m164:Value->Option Value),v162= .map (some r163)/\IsMap ο r163 .string m164/\∃y165:Value,∃g166:Bool,((g166=true/\m164 (.string (ai s131))=some y165)\/(g166=false/\m164 (.string (ai s131))=none/\y165=(.slice none 0 0)))/\Dc 47 #[y165,(Value.func (Fn.func 157) #[] #[(.pointer (some ⟨b8,0,none⟩)),(.pointer (some ⟨J,0,none⟩)),(.pointer (some ⟨b105,0,none⟩))])] ο λq167 δ=>bC q167 (qU δ J 0 λs169=>qU δ J 0 λs170=>cc δ (.cells #[(.string (ai s131)),(.string (ai s169)),(.string (ai s170)),(.string (ai s131))] tP) λb171 w172=>iY tP 2 32 w172 γ (.slice (some ⟨b171,0,none⟩) 2 2) λv178 w179=>a7 (H+1)/\I139 v178 (H+1) w179/\ξ v178 (H+1) w179< ξ γ H Z) (a7 (H+1)/\I139 γ (H+1) δ/\ξ γ (H+1) δ< ξ γ H Z))) (a7 (η+1)/\I122 γ (η+1) Z/\m123 γ (η+1) Z< m123 ω η β)) (dO ω λl181=>bC (decide ((l181:Int)=0)) (R β) (dO ω λl184=>kG 0 β λI186 m187 ζ V=>bC (decide (ζ< (l184:Int))) (cJ ω ζ λb190 o191=>∃s194:aB,∃s195:aB,(World.cell? V ⟨b190,(o191+ζ.toNat* 2),none⟩=some (.string (ai s194))/\World.cell? V ⟨b190,((o191+ζ.toNat* 2)+1),none⟩=some (.string (ai s195))/\True)/\cc V (.cells #[(.string ⟨#[]⟩),(.string ⟨#[]⟩)] tP) λα ι=>zk ι α 0 2 [(.string (ai s194)),(.string (ai s195))] λκ=>iP κ λS199 w200=>dA S199 b2 0 λv201=>bH v201 λb202 o203=>dA S199 b202 (o203+5) λv204=>∃s205:aB,∃s206:aB,(∀w',S199 w'->World.cell? w' ⟨α,0,none⟩=some (.string (ai s205))/\World.cell? w' ⟨α,1,none⟩=some (.string (ai s206))/\True)/\∃(r207:Nat) (m208:Value->Option Value),v204= .map (some r207)/\IsMap w200 r207 (TypeDesc.array 2 9) m208/\∀w209:World,IsMap w209 r207 (TypeDesc.array 2 9) (bS m208 (.agg #[(.string (ai s205)),(.string (ai s206))]) (.int .i64 ψ))->bs w200 w209 r207->a7 (ζ+1)/\I186 (ζ+1) w209/\m187 (ζ+1) w209< m187 ζ V) (a7 (ψ+1)/\I109 (ψ+1) V/\m110 (ψ+1) V< m110 ψ G))):=by
 have hpl:=Eo hl;refine⟨λx w'=>∃n:Nat,x=(n:Int)+1/\n+uv all (ap n)<=14400/\La w ra Q b r b2 b4 b6 b8 b105 vo all mm w'/\ta w' ra all (λ _ _=>True) (ap n),λ _ w'=>(Im all).countP λp=>decide (B6 w' ra (DX p.1 p.2)=none),
  ⟨0,rfl,by have:uv all (ap 0)<=(Im all).length:=List.countP_le_length;omega,hS,hA⟩,λx G hI=>?_⟩
 clear hS hA;obtain⟨n,rfl,hn,hS,hA⟩:=hI;intro b113 ν hb113 hw114;have x114:Ex G ν:=hw114▸Ex.alloc G _;have o114:gn G.heap.size ν (.slice (some ⟨b113,0,none⟩) 0 0) []:=gn.M5 (OL _) hb113 hw114;clear hw114 hb113;have hS':=hS.ex x114;obtain⟨a,cap,hv⟩:=hS.bo.so.slice;have hso:∀{w'},Ex G w'->Strs w' vo all:=λ{w'} x=>hS.bo.so.ex x
 refine⟨_,hS'.r1.c2,b,0,rfl,vo,hS'.bo.c1,a,_,cap,hv,λv x w'=>∃(j:Nat) (L:List (Tx×Tx)),x=j/\j<=all.length/\Ex G w'/\gn G.heap.size w' v L/\L.length<=240* j/\CX all (ap n) (Pr all j 0) L,λ _ x _=>(all.length - x).toNat,
  ⟨0,[],rfl,Ps _,x114,o114,by simp,λs t=>by simp [sR]⟩,λv x β hI=>?_⟩
 clear hS' o114 x114;obtain⟨j,L,rfl,hj,ς,o126,hL,hLs⟩:=hI;have μ:=hS.ex ς;have s126:=ς.size;refine⟨λhlt=>?_,λhge=>?_⟩
 ·have hjl:=oL hlt;have hjm:=OK hjl;refine(hso ς).get (Ex.refl _) (PN j) (gE hjl) (Q:=λn=>_) ?_;refine⟨_,μ.r1.c2,b,0,rfl,vo,μ.bo.c1,a,_,cap,hv,λv x w'=>∃(i:Nat) (L:List (Tx×Tx)),x=i/\i<=all.length/\Ex G w'/\gn G.heap.size w' v L/\L.length<=240* j+2* i/\CX all (ap n) (Pr all j i) L,λ _ x _=>(all.length - x).toNat,
   ⟨0,L,rfl,Ps _,ς,o126,by omega,hLs⟩,λv' x Z hI=>?_⟩
  obtain⟨i,L',rfl,hi,x143,o143,hL',hLs'⟩:=hI;have hS143:=hS.ex x143;have s143:=x143.size;refine⟨λhlt2=>?_,λhge2=>?_⟩;rotate_left
  ·have e:=oE hge2 (by omega);subst e;exact⟨by omega,⟨j+1,L',by omega,by omega,x143,o143,by omega,hLs'.congr λ _ _=>Gw hjl⟩,tN (by omega)⟩
  have hil:=oL hlt2;have him:=OK hil;have hm2:=@tN all.length i (by omega);refine(hso x143).get (Ex.refl _) (PN i) (gE hil) (Q:=λn=>_) ?_;intro J θ hb149 υ;have x150:Ex Z θ:=υ▸Ex.alloc Z _;have s150:θ.heap.size=Z.heap.size+1:=by rw [υ,size_alloc]
  have c150:θ.cell? ⟨J,0,none⟩=some (.string ⟨#[]⟩):=by rw [υ,hb149];exact aa rfl
  refine⟨⟨⟨_,c150⟩,by rw [υ,hb149];exact aG _ _ _ _⟩,λε hw152=>?_⟩;have k152:Kp θ ε (λg=>g=J):=hw152▸Kr.set θ 0 _;have x152:Ex Z ε:=Ex.below x150 (Kp.below k152 (by omega) λg hg e=>by omega);have c152:ε.cell? ⟨J,0,none⟩=some (.string (ai all[i])):=by rw [hw152];exact OT _ _ _ c150
  have s152:=k152.size;have φ:=Ex.trans x143 x152;have W:=hS.ex φ;have hA152:=hA.ex φ;obtain⟨mf,fc⟩:=W.r1.fn W.bo hA152 W.hc W.lc;have skip:∀{w':World},Ex ε w'->¬(ap n all[j] all[i]=none/\¬Hf (ap n) all[j] all[i])->a7 ((i:Int)+1)/\(∃(i':Nat) (L:List (Tx×Tx)),(i:Int)+1=i'/\i'<=all.length/\Ex G w'/\gn G.heap.size w' v' L/\L.length<=240* j+2* i'/\CX all (ap n) (Pr all j i') L)/\((all.length:Int) - ((i:Int)+1)).toNat< ((all.length:Int) - i).toNat:=λ{w'} x hnn=>
   ⟨by omega,⟨i+1,L',by omega,by omega,Ex.trans φ x,o143.ex (Ex.trans x152 x),by omega,(hLs'.skip hnn).congr λ _ _=>(sJ hjl hil).symm⟩,hm2⟩
  refine⟨_,W.hc,all[i],c152,156,[ptr b2],rfl,by kernel_rfl,fc.is hjm him ⟨λhq=>?_,λhq=>?_⟩⟩
  ·refine skip (Ex.refl _) λh=>?_
   rw [h.1]at hq;cases hq
  have hnone:ap n all[j] all[i]=none:=by
   cases e:ap n all[j] all[i]with
   | none=>rfl
   | some k=>rw [e]at hq;cases hq
  obtain⟨vn,l,hn1,hn2,hn3,hn4⟩:=W.bo.nm.nx _ hjm;have enx:=yK hn2;refine⟨_,W.r1.c2,b,0,rfl,_,W.bo.nm.c2,r,mm,rfl,W.bo.nm.mp,vn,true,.inl ⟨rfl,hn1⟩,?_⟩;refine Ho (ca:=[ptr b8,ptr J,ptr b105]) hn4 (by have :=pP hn2;omega) (by kernel_rfl) (Nk (ap n) all[i]) (λk hk w' Q' x hQ=>?_) λδ x168=>⟨λhq=>?_,λhq=>?_⟩
  ·exact M8 (fc.ex x) hcl (hn3 k hk) him (by rw [x.cell (a:=⟨J,0,none⟩) (show J< _ by omega)];exact c152) (by have :=x.size;omega) hQ
  ·have hq:∃k∈l,Nk (ap n) all[i] k:=Om hq;have hnh:¬Hf (ap n) all[j] all[i]:=λhh=>by
    obtain⟨k,h1,h2⟩:=hq;exact h2 (hh k (by rw [enx];exact h1))
   have c168:δ.cell? ⟨J,0,none⟩=some (.string (ai all[i])):=by rw [x168.cell (a:=⟨J,0,none⟩) (show J< _ by omega)];exact c152
   refine⟨_,c168,_,c168,λb171 w172 hb171 hw172=>?_⟩;have s168:=x168.size;have xw168:=Ex.trans φ x168;have x172:Ex δ w172:=hw172▸Ex.alloc δ _;refine gn.push (o143.ex (Ex.trans x152 x168)) (by omega) (n:=all[j]) (m:=all[i]) hb171 hw172 (by omega) λv'' w179 o179 b179=>⟨by omega,⟨i+1,_,by omega,by omega,Ex.below (Ex.trans xw168 x172) b179,o179,by simp only [OG,OA,OS];omega,(hLs'.add hnone hnh).congr λ _ _=>(sJ hjl hil).symm⟩,hm2⟩
  ·refine skip x168 λh=>Ov hq ?_
   exact PE λhc=>h.2 λk hk=>PE λhk2=>hc ⟨k,by rw [<-enx];exact hk,hk2⟩
 have e:=oE hge (by omega);subst e;have hLs2:CX all (ap n) (λa b=>a∈all/\b∈all) L:=hLs.congr λ _ _=>Iv
 obtain⟨aL,capL,hvL⟩:=o126.slice;refine⟨aL,_,capL,hvL,λhz=>?_,λhz=>⟨aL,_,capL,hvL,?_⟩⟩
 ·have hz:L=[]:=by simp only [OQ]at hz;exact O' (by omega)
  subst hz;refine hR β μ.r1.kp μ.bo ((hA.ex ς).congr λs hs t ht=>?_);rw [Pd trivial,Pd trivial,ER hcl (r:=n) (λs hs t ht=>?_) s hs t ht];have :=BA hLs2 hs ht;simpa using this.symm
 have hne:L≠[]:=λe=>by subst e;simp at hz
 have hlt:=HG hLs2 hne;refine⟨λx w'=>∃i:Nat,x=i/\i<=L.length/\Kp β w' (λg=>g=ra)/\ta w' ra all (λ _ _=>True) (λs t=>if(s,t)∈L.take i then some (n+1)else ap n s t),λx _=>(L.length - x).toNat,
  ⟨0,rfl,Ps _,Kp.af (Ex.refl _) _,(hA.ex ς).congr λs _ t _=>by simp⟩,λx V hI=>?_⟩
 obtain⟨i,rfl,hi,k189,hA189⟩:=hI;have hS189:=μ.to k189;have lra:=hS.r1.lra;have sw:=hS.r1.kp.size;refine⟨λhlt2=>?_,λhge2=>?_⟩;rotate_left
 ·have e:=oE hge2 (by omega);rw [e,O6]at hA189;have hA2:ta V ra all (λ _ _=>True) (ap (n+1)):=hA189.congr λs hs t ht=>by rw [Pd trivial,Pd trivial,BA hLs2 hs ht]
  refine⟨by omega,⟨n+1,by omega,by omega,hS189,hA2⟩,?_⟩;show((Im all).countP λp=>decide (B6 V ra (DX p.1 p.2)=none))< (Im all).countP λp=>decide (B6 G ra (DX p.1 p.2)=none)
  rw [hA2.cnt,hA.cnt];exact hlt
 have hil:=oL hlt2;have o189:gn G.heap.size V v L:=o126.kp k189 λg hg e=>by omega
 obtain⟨g,capg,hvg,k1,k2⟩:=o189.at hil;refine⟨g,0,_,_,hvg,by omega,by omega,L[i].1,L[i].2,⟨k1,k2,trivial⟩,λα ι hb196 χ=>?_⟩;have x197:Ex V ι:=χ▸Ex.alloc V _;have s197:ι.heap.size=V.heap.size+1:=by rw [χ,size_alloc]
 have c197:∀j,j< 2->∃u,ι.cell? ⟨α,0+j,none⟩=some u:=λj hj=>by
  rw [Pa,χ,hb196]
  match j,hj with
  | 0,_=>exact⟨_,aa rfl⟩
  | 1,_=>exact⟨_,aa rfl⟩
 refine⟨⟨rfl,rfl,λj hj=>⟨c197 j hj,by rw [χ,hb196];exact aG _ _ _ _⟩⟩,λκ hw198=>?_⟩;obtain⟨kr,_,_,sc⟩:=aJ (b:=α) [sv L[i].1,sv L[i].2] ι 0;rw [show World.setCells ι α 0 [sv L[i].1,sv L[i].2]=κ from hw198.symm]at kr sc;have sc:=λj (hj:j< 2)=>sc j c197 hj
 have s198:=kr.size;have x198:Ex V κ:=Ex.below x197 (Kp.below kr (by omega) λg hg e=>by omega);have hS198:=hS189.ex x198;refine⟨λw'=>Ex κ w',λw200 hw200=>⟨hw200▸Ex.drew κ,_,λw' x=>(hS198.ex x).r1.c2,b,0,rfl,_,λw' x=>by rw [Pa];exact(hS198.ex x).bo.c5,L[i].1,L[i].2,λw' x=>⟨?_,?_,trivial⟩,?_⟩⟩
 ·rw [x.cell (a:=⟨α,0,none⟩) (show α< _ by omega)];exact sc 0 (by omega)
 ·rw [x.cell (a:=⟨α,1,none⟩) (show α< _ by omega)];exact sc 1 (by omega)
 have x200:Ex V w200:=Ex.trans x198 (hw200▸Ex.drew κ);have hA200:=hA189.ex x200;obtain⟨m,hm,_⟩:=id hA200;refine⟨ra,m,rfl,hm,λw209 hm209 k209=>⟨by omega,⟨i+1,by omega,by omega,?_,?_⟩,tN (by omega)⟩⟩
 ·exact Kp.trans (Kp.trans k189 (Kp.af x200 _) λ _ _ h=>h) (Kp.jR k209) λ _ _ h=>h
 ·refine(hA200.set (n:=n+1) hm hm209).congr λs _ t _=>?_
  simp only [true_or,Qr];rw [OE hil];by_cases e:s=L[i].1/\t=L[i].2
  ·rw [Pd e,Pd];rw [OM,OJ];exact .inr (by rw [e.1,e.2])
  ·rw [OW e];have:(s,t)∈L.take i++[L[i]]↔(s,t)∈L.take i:=by
    rw [OM,OJ];exact⟨λh=>h.resolve_right λh=>e ⟨by rw [<-h],by rw [<-h]⟩,.inl⟩
   simp only [this]
theorem IH {w:World}{ra b r:Nat}{vo:Value}{all:List Tx}{mm:Value->Option Value}(h:Hp w ra b r vo all mm)(hl:all.length<=120)(hst:∀s∈all,St s)(ha:∃m0,IsMap w ra aT m0/\∀s t,m0 (DX s t)=none){R:Sg}
  (hR:∀w',Kp w w' (λg=>g=ra)->Hp w' ra b r vo all mm->ta w' ra all (λ _ _=>True) zK->R w'):Sh 105 #[ptr b] w (aw [] R):=by
 refine nh _ w R ?_;have hcl:Cl all:=λs hs=>by obtain⟨v,l,_,h2,h3,_⟩:=h.nm.nx s hs;exact⟨l,h2,h3⟩
 obtain⟨m0,Z,V⟩:=ha;have lra:=bT Z;refine⟨rfl,λb2 w3 hb2 ο b4 w5 hb4 ς b6 w7 hb6 υ b8 w9 hb8 ζ=>?_⟩;have x3:Ex w w3:=ο▸Ex.alloc w _;have x5:Ex w3 w5:=ς▸Ex.alloc w3 _;have x7:Ex w5 w7:=υ▸Ex.alloc w5 _;have x9:Ex w7 w9:=ζ▸Ex.alloc w7 _;have s3:w3.heap.size=w.heap.size+1:=by rw [ο,size_alloc]
 have s5:w5.heap.size=w3.heap.size+1:=by rw [ς,size_alloc]
 have s7:w7.heap.size=w5.heap.size+1:=by rw [υ,size_alloc]
 have s9:w9.heap.size=w7.heap.size+1:=by rw [ζ,size_alloc]
 have c9:w9.cell? ⟨b8,0,none⟩=some (.map none):=by rw [ζ,hb8];exact aa rfl
 refine⟨rfl,⟨⟨_,c9⟩,by rw [ζ,hb8];exact aG _ _ _ _⟩,λH η=>?_⟩;have δ:Kp w9 H (λg=>g=b8):=η▸Kr.set w9 0 _;have s11:=δ.size;have x39:=Ex.trans x5 (Ex.trans x7 x9);have x11:Ex w H:=Ex.below (Ex.trans x3 x39) (Kp.below δ (by omega) λg hg e=>by omega);have c2:H.cell? ⟨b2,0,none⟩=some (ptr b):=by
  rw [OB (w:=w3) ((δ.block b2 (by omega) (by omega)).trans (x39.block b2 (by omega))),ο,hb2];exact aa rfl
 have em4:H.heap[b4]?=some (.map #[] 0):=by rw [δ.block b4 (by omega) (by omega),(Ex.trans x7 x9).block b4 (by omega),ς,hb4];unfold World.alloc;simp
 have em6:H.heap[b6]?=some (.map #[] 0):=by rw [δ.block b6 (by omega) (by omega),x9.block b6 (by omega),υ,hb6];unfold World.alloc;simp
 have i11:R1 w ra H.heap.size b b2 b4 b6 b8 (λs=>s∈all.take 0) (λs=>s∈all.take 0) H:=⟨Kp.af x11 _,lra,⟨by omega,by omega⟩,⟨by omega,by omega⟩,⟨by omega,by omega⟩,⟨by omega,by omega⟩,OL _,by omega,by omega,by omega,by omega,by omega,c2,by rw [η];exact OT _ _ _ c9,⟨cB [],⟨#[],0,em4,⟨by simp,by simp,by simp⟩,by simp,λq=>rfl⟩,λs hs=>by simp at hs⟩,cB [],⟨#[],0,em6,⟨by simp,by simp,by simp⟩,by simp,λq=>rfl⟩,λs hs=>by simp at hs⟩
 have ha11:∃m0,IsMap H ra aT m0/\∀s t,m0 (DX s t)=none:=⟨m0,aS Z (x11.block ra lra),V⟩
 clear em4 em6 c2 δ c9 η ζ υ ς ο x39 x9 x7 x5 x3 s9 s7 s5 s3 hb2 hb4 hb6 hb8 Z V;generalize hQ:H.heap.size=Q at i11;obtain⟨a,cap,hv⟩:=h.so.slice;have hB:∀{w'},Kp w w' (λg=>g=ra)->Hp w' ra b r vo all mm:=λ{w'} k=>h.kp k
 refine⟨_,i11.c2,b,0,rfl,vo,(hB i11.kp).c1,a,_,cap,hv,λx w'=>∃j:Nat,x=j/\j<=all.length/\R1 w ra Q b b2 b4 b6 b8 (λs=>s∈all.take j) (λs=>s∈all.take j) w'/\∃m0,IsMap w' ra aT m0/\∀s t,m0 (DX s t)=none,λx _=>(all.length - x).toNat,
  ⟨0,rfl,Ps _,i11,ha11⟩,λx ε hI=>?_⟩
 clear i11 ha11 x11 s11 hQ;obtain⟨j,rfl,hj,i22,m0,Z,V⟩:=hI;have φ:=hB i22.kp;refine⟨λhlt=>?_,λχ=>?_⟩
 ·have G:=oL hlt;have θ:=OK G;have hm1:=@tN all.length j (by omega);refine φ.so.get (Ex.refl _) (PN j) (gE G) (Q:=λn=>_) ?_;refine⟨λw'=>Ex ε w',λw29 hw29=>⟨hw29▸Ex.drew ε,_,λw' x=>(i22.ex x).c2,b,0,rfl,_,λw' x=>(i22.ex x).c2,b,0,rfl,?_⟩⟩;have ψ:Ex ε w29:=hw29▸Ex.drew ε;refine Hg (φ.nm.ex ψ) hl hst θ (k:=33) (by decide) λx w37 x37 hx hx2=>⟨Ex.trans ψ x37,Hg (φ.nm.ex (Ex.trans ψ x37)) hl hst θ (k:=63) (by decide) λy w39 x39 hy hy2=>?_⟩
  have α:=Ex.trans ψ (Ex.trans x37 x39);have i39:=i22.ex α;obtain⟨mb,ι,_⟩:=i39.mb;refine⟨α,b4,mb,rfl,ι,λκ hm42 k42=>?_⟩;have i42:=i39.NL ι hm42 k42 hx hx2 hy hy2;have a42:IsMap κ ra aT m0:=aS (aS Z (α.block ra (bT Z))) (k42.block ra (by have :=i22.l4;have :=i22.lra;omega));have h42:=hB i42.kp;refine⟨λw'=>Ex κ w',λw44 hw44=>⟨hw44▸Ex.drew κ,_,λw' x=>(i42.ex x).c8,_,λw' x=>(i42.ex x).c2,b,0,rfl,?_⟩⟩;have x44:Ex κ w44:=hw44▸Ex.drew κ;refine H0 (h42.nm.ex x44) hl θ λv l w50 x50 o50 hr h120=>?_
  have β:=Ex.trans x44 x50;have i50:=i42.ex β;obtain⟨mq,hmq,_⟩:=i50.mq;refine⟨β,b6,mq,rfl,hmq,λw53 hm53 k53=>⟨by omega,⟨j+1,by omega,by omega,?_,m0,?_,V⟩,hm1⟩⟩
  ·have i53:=i50.N2 hmq hm53 k53 o50.strs hr h120 λg hg=>by have :=(o50.block g hg).1;have :=i42.lq;have :=x44.size;omega
   refine i53.mono (λs hs=>?_) λs hs=>?_
   ·rw [OE G,OM,OJ]at hs;exact hs
   ·rw [OE G,OM,OJ]at hs;exact hs
  ·exact aS (aS a42 (β.block ra (bT a42))) (k53.block ra (by have :=i22.l6;have :=i22.lra;omega))
 have e:=oE χ (by omega);subst e;rw [O6]at i22;refine⟨_,i22.c2,b,0,rfl,vo,φ.c1,a,_,cap,hv,λx w'=>∃j:Nat,x=j/\j<=all.length/\Kp ε w' (λg=>g=ra)/\ta w' ra all (Pr all j 0) (ap 0),λx _=>(all.length - x).toNat,
  ⟨0,rfl,Ps _,Kp.af (Ex.refl _) _,m0,Z,λs _ t _=>by rw [V,OW];simp [sR]⟩,λx μ hI=>?_⟩
 clear hj χ;obtain⟨j,rfl,hj,k64,hA64⟩:=hI;have i64:=i22.to k64;have h64:=hB i64.kp;refine⟨λhlt=>?_,λχ=>?_⟩
 ·have G:=oL hlt;have θ:=OK G;refine h64.so.get (Ex.refl _) (PN j) (gE G) (Q:=λn=>_) ?_;refine⟨_,i64.c2,b,0,rfl,vo,h64.c1,a,_,cap,hv,λx w'=>∃i:Nat,x=i/\i<=all.length/\Kp ε w' (λg=>g=ra)/\ta w' ra all (Pr all j i) (ap 0),λx _=>(all.length - x).toNat,
   ⟨0,rfl,Ps _,k64,hA64⟩,λx w80 hI=>?_⟩
  obtain⟨i,rfl,hi,ω,γ⟩:=hI;have i80:=i22.to ω;have h80:=hB i80.kp;refine⟨λhlt2=>?_,λhge2=>?_⟩;rotate_left
  ·have e:=oE hge2 (by omega);subst e;exact⟨by omega,⟨j+1,by omega,by omega,ω,γ.congr λs _ t _=>by simp only [Gw G]⟩,tN (by omega)⟩
  have hil:=oL hlt2;have him:=OK hil;have hm2:=@tN all.length i (by omega);refine h80.so.get (Ex.refl _) (PN i) (gE hil) (Q:=λn=>_) ?_;obtain⟨mb,ι,hmbs⟩:=i80.mb;obtain⟨x1,y1,e1,p1,q1,r1,t1⟩:=hmbs _ θ;obtain⟨x2,y2,e2,p2,q2,r2,t2⟩:=hmbs _ him;refine⟨b4,mb,rfl,ι,_,true,.inl ⟨rfl,e1⟩,b4,mb,rfl,ι,_,true,.inl ⟨rfl,e2⟩,x1,y1,x2,y2,rfl,rfl,?_⟩;have hbar:(x1=x2/\y1=y2)↔KC all[j] all[i]:=and_congr (D6 p1 p2 q1 q2) (D6 r1 r2 t1 t2);refine⟨λhq=>?_,λhq=>?_⟩
  ·have hnb:¬KC all[j] all[i]:=λhb=>by
    obtain⟨rfl,rfl⟩:=hbar.2 hb;simp at hq
   have e0:ap 0 all[j] all[i]=some 0:=by unfold ap;rw [OW hnb]
   obtain⟨m,hm,_⟩:=id γ;refine⟨_,i80.c2,b,0,rfl,_,by rw [Pa];exact h80.c5,ra,m,rfl,hm,λw104 hm104 k104=>⟨by omega,⟨i+1,by omega,by omega,?_,?_⟩,hm2⟩⟩
   ·exact Kp.trans ω (Kp.jR k104) λ _ _ h=>h
   ·refine(γ.set (n:=0) hm hm104).congr λs _ t _=>?_
    simp only [sJ G hil];by_cases e:s=all[j]/\t=all[i]
    ·obtain⟨rfl,rfl⟩:=e;simp [e0]
    ·simp only [e,QZ,Rg]
  ·have hb:KC all[j] all[i]:=hbar.1 (by simpa using hq);have e0:ap 0 all[j] all[i]=none:=by unfold ap;rw [Pd hb]
   refine⟨by omega,⟨i+1,by omega,by omega,ω,γ.congr λs _ t _=>?_⟩,hm2⟩;simp only [sJ G hil];by_cases e:s=all[j]/\t=all[i]
   ·obtain⟨rfl,rfl⟩:=e;simp [e0]
   ·simp only [e,QZ]
 have e:=oE χ (by omega);subst e;have hA:ta μ ra all (λ _ _=>True) (ap 0):=hA64.congr λs hs t ht=>by rw [Pd (Iv.2 ⟨hs,ht⟩),Pd trivial]
 intro b105 W ν J;have x106:Ex μ W:=J▸Ex.alloc μ _;have s106:W.heap.size=μ.heap.size+1:=by rw [J,size_alloc]
 have c106:W.cell? ⟨b105,0,none⟩=some .nilFunc:=by rw [J,ν];exact aa rfl
 refine⟨rfl,⟨⟨_,c106⟩,by rw [J,ν];exact aG _ _ _ _⟩,λw108 ξ=>?_⟩;have k108:Kp W w108 (λg=>g=b105):=ξ▸Kr.set W 0 _;have x108:Ex μ w108:=Ex.below x106 (Kp.below k108 (by omega) λg hg e=>by omega);have i108:=i64.ex x108;have s108:=k108.size;have s64:=i64.kp.size;exact Fx hcl hl ⟨i108,hB i108.kp,by rw [ξ];exact OT _ _ _ c106,by omega,by omega⟩ (hA.ex x108) hR
structure IU (w8 wb:World)(b r ra:Nat)(E:Nat->Prop)(a0 b0:Tx)(vo:Value)(all:List Tx)(mm:Value->Option Value)(w:World):Prop where
 ex:Ex w8 w
 lb:w8.heap.size<=b
 lt:b< w.heap.size
 lr:w8.heap.size<=r
 br:b≠r
 f:∀j,w.frozen? ⟨b,j,none⟩=false
 c1:w.cell? ⟨b,1,none⟩=some vo
 c2:w.cell? ⟨b,2,none⟩=some (.map (some r))
 c3:w.cell? ⟨b,3,none⟩=some (.string (ai a0))
 c4:w.cell? ⟨b,4,none⟩=some (.string (ai b0))
 c5:w.cell? ⟨b,5,none⟩=some (.map (some ra))
 mp:IsMap w r .string mm
 pv:∀g,E g->g< w.heap.size/\w.heap[g]?=wb.heap[g]?
 en:∀g,E g->g≠b/\g≠r
 sl:Own w8.heap.size w vo all
 so:∀g,vo.ownBlock=some g->g≠b/\g≠r/\¬E g
 nx:∀s∈all,∃v l,mm (.string (ai s))=some v/\sM s=some l/\Strs w8 v l
 nn:∀s,s∉all->mm (.string (ai s))=none
section
variable {w8 wb w:World} {b r ra:Nat} {E:Nat->Prop} {a0 b0:Tx} {vo:Value} {all:List Tx} {mm:Value->Option Value}
theorem IU.to (h:IU w8 wb b r ra E a0 b0 vo all mm w){w':World}(x:Ex w w'):IU w8 wb b r ra E a0 b0 vo all mm w':=by
 have s:=x.size;have lt:=h.lt;have c:∀j,w'.cell? ⟨b,j,none⟩=w.cell? ⟨b,j,none⟩:=λj=>x.cell (a:=⟨b,j,none⟩) lt
 exact⟨Ex.trans h.ex x,h.lb,by omega,h.lr,h.br,λj=>by rw [PO x lt];exact h.f j,by rw [c];exact h.c1,by rw [c];exact h.c2,by rw [c];exact h.c3,by rw [c];exact h.c4,by rw [c];exact h.c5,aS h.mp (x.block r (bT h.mp)),λg G=>⟨by have :=(h.pv g G).1;omega,by rw [x.block g (h.pv g G).1];exact(h.pv g G).2⟩,h.en,h.sl.ex x,h.so,h.nx,h.nn⟩
theorem IU.add (h:IU w8 wb b r ra E a0 b0 vo all mm w){s:Tx}(hs:s∉all){v:Value}{l:List Tx}(hl:sM s=some l)(hv:Strs w8 v l){V w2:World}(x:Ex w V){v':Value}(ho:Own w8.heap.size w2 v' (all++[s]))(G:V.grownBy w2 vo.ownBlock)(hn:∀g,v'.ownBlock=some g->vo.ownBlock=some g\/V.heap.size<=g):
  (Ex w8 w2/\w2.cell? ⟨b,1,none⟩=some vo/\w2.cell? ⟨b,2,none⟩=some (.map (some r))/\IsMap w2 r .string mm)/\
  (((∃u,w2.cell? ⟨b,1,none⟩=some u)/\w2.frozen? ⟨b,1,none⟩=false)/\∀w',w'=w2.setCell ⟨b,1,none⟩ v'->IsMap w' r .string mm/\
   ∀(u:Value) (w3:World),bs w' w3 r->∀J,IsMap J r .string (bS (bS mm (.string (ai s)) u) (.string (ai s)) v)->bs w3 J r->IU w8 wb b r ra E a0 b0 v' (all++[s]) (bS (bS mm (.string (ai s)) u) (.string (ai s)) v) J):=by
 have se:=h.ex.size;have lt:=h.lt;have lr:=h.lr;obtain⟨f1,f2⟩:=vB (v':=v') lt h.lb se (λg G=>⟨(h.sl.block g G).1,(h.sl.block g G).2,(h.so g G).1⟩) ⟨_,h.c1⟩ h.f x G;have H:Kp V w2 λg=>vo.ownBlock=some g:=Kp.aK G λ _ h=>h
 have ha:=h.to x;have sx:=x.size;have γ:=H.size;have eb:=H.block b ha.lt λe=>(h.so b e).1 rfl
 have mr:=bT h.mp;have er:=H.block r (by omega) λe=>(h.so r e).2.1 rfl
 have W:IsMap w2 r .string mm:=aS ha.mp er;refine⟨⟨Ex.below ha.ex (Kp.below H (by omega) λg G e=>by have :=(h.sl.block g e).1;omega),by rw [OB (w:=V) eb];exact ha.c1,by rw [OB (w:=V) eb];exact ha.c2,W⟩,f1,λw' α=>?_⟩;obtain⟨k1,Z,k3,k4,k5,k6⟩:=f2 w' α;refine⟨aS W (k6.block r (by omega) λe=>h.br e.symm),λu w3 g3 J β g4=>?_⟩;have q3:Kp w' J λg=>g=r:=Kp.trans (Kp.jR g3) (Kp.jR g4) λ _ _ h=>h
 have e4:=(g4.block b h.br).trans (g3.block b h.br);have c:∀j,J.cell? ⟨b,j,none⟩=w'.cell? ⟨b,j,none⟩:=λj=>OB (w:=w') e4
 have s4:=k4.size;have s5:=q3.size;have δ:=k6.size;have dv:∀g,v'.ownBlock=some g->g≠b/\g≠r/\¬E g:=λg G=>(hn g G).elim (h.so g) λe=>⟨by omega,by omega,λe'=>by have :=(h.pv g e').1;omega⟩
 have kk:Kp w J λg=>(vo.ownBlock=some g\/g=b)\/g=r:=Kp.trans (Kp.mono (λ _ h=> .inl h) k4) q3 λ _ _ h=> .inr h
 refine⟨?_,h.lb,by omega,h.lr,h.br,λj=>by rw [O7 (w:=w') e4];exact k3 j,by rw [c];exact k1,by rw [c];exact(Z 2 (by omega)).trans h.c2,by rw [c];exact(Z 3 (by omega)).trans h.c3,by rw [c];exact(Z 4 (by omega)).trans h.c4,by rw [c];exact(Z 5 (by omega)).trans h.c5,β,λg G=>?_,h.en,?_,dv,λt ht=>?_,λt ht=>?_⟩
 ·exact Ex.below (Ex.below h.ex k5) (Kp.below q3 (by omega) λg G e=>by omega)
 ·have hp:=h.pv g G;refine⟨by omega,(kk.block g hp.1 λe=>?_).trans hp.2⟩;rcases e with(e | e) | e
  ·exact(h.so g e).2.2 G
  ·exact(h.en g G).1 e
  ·exact(h.en g G).2 e
 ·exact ho.kp (Kp.trans (Kp.mono (T:=λg=>g=b\/g=r) (λ _ h=> .inl h) k6) q3 λ _ _ h=> .inr h) λg G e=>e.elim (dv g G).1 (dv g G).2.1
 ·by_cases e:t=s
  ·subst e;exact⟨v,l,by unfold bS;simp,hl,hv⟩
  ·obtain⟨v1,l1,h1,h2,h3⟩:=h.nx t ((OM.1 ht).resolve_right λh=>e (OJ.1 h));have ne:¬((Value.string (ai t))= .string (ai s)):=λh=>e (eP (Ru h))
   exact⟨v1,l1,by unfold bS;rw [OW ne,OW ne];exact h1,h2,h3⟩
 ·have e:t≠s:=λe=>ht (OM.2 (.inr (OJ.2 e)))
  have ne:¬((Value.string (ai t))= .string (ai s)):=λh=>e (eP (Ru h))
  unfold bS;rw [OW ne,OW ne];exact h.nn t λh=>ht (Pf _ h)
end
theorem wZ {p q a0 b0:Tx}{la lb:List Tx}(ha:bX p=some a0)(hb:bX q=some b0)(G:aV p=some la)(H:aV q=some lb):tolT p q=some (a0,b0):=by
 unfold tolT;rw [G,H,ha,hb];rfl
theorem HH:Cl []:=λ _ h=>by cases h
theorem Mq {p q:Tx}{w:World}{R:Value->Bool->Sg}(hR1:tolT p q=none->∀w',Ex w w'->R (.pointer none) false w')
  (hR2:∀a0 b0 all,tolT p q=some (a0,b0)->a0∈all->b0∈all->(∀s∈all,St s)->all.length<=120->∀ra b r vo mm w',Ex w w'->Hp w' ra b r vo all mm->ta w' ra all (λ _ _=>True) zK->w'.cell? ⟨b,3,none⟩=some (.string (ai a0))->w'.cell? ⟨b,4,none⟩=some (.string (ai b0))->R (ptr b) true w'):
  Sh 57 #[.string (ai p),.string (ai q)] w (aw [.v,.b] R):=by
 refine y6 p q w R ?_;have ζ:aV p=none->tolT p q=none:=λh=>by unfold tolT;rw [h]
 have ο:aV q=none->tolT p q=none:=λh=>by unfold tolT;rw [h];cases aV p<;>rfl
 refine qS (λhn w5 x5=>?_) λa0 la ha ga sa na bp rp mp Lp w5 x5 hp=>?_
 ·exact qS (λ _ w8 x8=>⟨(λh=>by cases h),λ _=>hR1 (ζ hn) w8 (Ex.trans x5 x8)⟩) λb0 lb hb gb sb nb bq rq mq Lq w8 x8 hq=>⟨(λh=>by cases h),λ _=>hR1 (ζ hn) w8 (Ex.trans x5 x8)⟩
 refine qS (λhn w8 x8=>⟨λ _=>⟨λ _=>hR1 (ο hn) w8 (Ex.trans x5 x8),(λh=>by cases h)⟩,(λh=>by cases h)⟩) λb0 lb hb gb sb nb bq rq mq Lq w8 x8 hq=>⟨λ _=>⟨(λh=>by cases h),λ _=>?_⟩,(λh=>by cases h)⟩
 have hp:=hp.ex x8;have x08:=Ex.trans x5 x8;have htol:=wZ ha hb ga gb;clear hR1 ζ ο x5 x8;refine⟨λw'=>Ex w8 w',λw10 ς=>⟨ς▸Ex.drew w8,bp,0,rfl,a0,λw' x=>(hp.ex x).c0,bq,0,rfl,b0,λw' x=>(hq.ex x).c0,λra υ hra κ=>?_⟩⟩;have φ:Ex w8 w10:=ς▸Ex.drew w8;have x18:Ex w10 υ:=κ▸Ex.alloc w10 _;have s18:υ.heap.size=w10.heap.size+1:=by rw [κ,size_alloc]
 refine⟨Ex.trans φ x18,rfl,λb η μ V=>?_⟩;have x20:Ex υ η:=V▸Ex.alloc υ _;have s20:η.heap.size=υ.heap.size+1:=by rw [V,size_alloc]
 refine⟨Ex.trans φ (Ex.trans x18 x20),λr θ hr ν=>⟨rfl,?_⟩⟩;have χ:Ex η θ:=ν▸Ex.alloc η _;have s22:θ.heap.size=η.heap.size+1:=by rw [ν,size_alloc]
 have c20:∀j,θ.cell? ⟨b,j,none⟩=η.cell? ⟨b,j,none⟩:=λj=>χ.cell (a:=⟨b,j,none⟩) (show b< _ by omega)
 have c22:θ.cell? ⟨b,2,none⟩=some (.map none):=by rw [c20,V,μ];exact aa rfl
 have f22:∀j,θ.frozen? ⟨b,j,none⟩=false:=λj=>by rw [PO χ (show b< _ by omega),V,μ];exact aG _ _ _ _
 refine⟨⟨⟨_,c22⟩,f22 2⟩,λw24 Z=>⟨rfl,rfl,λe G he α=>?_⟩⟩;have ψ:Kp θ w24 (λg=>g=b):=Z▸Kr.set θ 2 _;have s24:=ψ.size;have ι:Ex w24 G:=α▸Ex.alloc w24 _;have s26:G.heap.size=w24.heap.size+1:=by rw [α,size_alloc]
 have s10:=φ.size;have x826:Ex w8 G:=Ex.trans (Ex.below (Ex.trans φ (Ex.trans x18 (Ex.trans x20 χ))) (Kp.below ψ (by omega) λg hg e=>by omega)) ι;have c26:∀j,j≠2->G.cell? ⟨b,j,none⟩=η.cell? ⟨b,j,none⟩:=λj hj=>by rw [ι.cell (a:=⟨b,j,none⟩) (show b< _ by omega),Z,OF _ _ _ _ (λe=>by injection e with e1 e2;exact hj e2.symm),c20]
 have d26:G.cell? ⟨b,2,none⟩=some (.map (some r)):=by rw [ι.cell (a:=⟨b,2,none⟩) (show b< _ by omega),Z];exact OT _ _ _ c22
 have er:G.heap[r]?=some (.map #[] 0):=by rw [ι.block r (by omega),ψ.block r (by omega) (by omega),ν,hr];unfold World.alloc;simp
 have ea:G.heap[ra]?=some (.map #[] 0):=by rw [ι.block ra (by omega),ψ.block ra (by omega) (by omega),χ.block ra (by omega),x20.block ra (by omega),κ,hra];unfold World.alloc;simp
 have e0:G.cell? ⟨e,0,none⟩=some (ptr bp):=by rw [α,he];exact aa rfl
 have e1:G.cell? ⟨e,1,none⟩=some (ptr bq):=by rw [α,he];exact aa rfl
 have i26:IU w8 G b r ra (λg=>g=ra\/g=e) a0 b0 (.slice none 0 0) [] (cB []) G:=by
  refine⟨x826,by omega,by omega,by omega,by omega,λj=>by rw [PO ι (show b< _ by omega),Z,OV];exact f22 j,?_,d26,?_,?_,?_,⟨#[],0,er,⟨by simp,by simp,by simp⟩,by simp,λq=>rfl⟩,λg hg=>⟨by omega,rfl⟩,λg hg=>by omega,Own.nil _ _,(λg hg=>by cases hg),(λs hs=>by cases hs),λs _=>rfl⟩
  all_goals (rw [c26 _ (by omega),V,μ];exact aa rfl)
 have lra:w8.heap.size<=ra:=by omega
 clear ς κ V ν Z α c20 c22 f22 c26 d26 er φ x18 x20 χ ψ ι s10 s18 s20 s22 s24 s26 hra μ hr he x826;have hla:=oB ha ga;have hlb:=oB hb gb
 let un:Nat->List Tx:=λj=>match j with | 0=>[] | 1=>a8 [] la | _=>a8 (a8 [] la) lb
 have hul:∀j,(un j).length<=120:=λj=>by
  have h1:=il la [];have h2:=il lb (a8 [] la);simp only [OS]at h1
  match j with
  | 0=>exact Ps _
  | 1=>show(a8 [] la).length<=120;omega
  | j+2=>show(a8 (a8 [] la) lb).length<=120;omega
 refine⟨_,2,2,rfl,λx w'=>∃(j:Nat) (vo:Value) (mm:Value->Option Value),x=j/\j<=2/\IU w8 G b r ra (λg=>g=ra\/g=e) a0 b0 vo (un j) mm w',λx _=>(2 - x).toNat,⟨0,_,_,rfl,Ps _,i26⟩,λx w33 hI=>?_⟩;clear i26;obtain⟨j,vo,mm,rfl,hj,i33⟩:=hI;have s33:=i33.ex.size;refine⟨λhlt=>?_,λhge=>?_⟩;rotate_left
 ·have ej:j=2:=by simp only [OP]at hge;omega
  subst ej;have hcl:Cl (un 2):=Cl.add (Cl.add HH hla.1.NH) hlb.1.NH;have ω:∀s,s∈un 2↔s∈la\/s∈lb:=λs=>by
   show s∈a8 (a8 [] la) lb↔_;simp only [cV,Qz,R7]
  have hn:=i33.en ra (.inl rfl);have hval:∀s∈un 2,∀v,mm (.string (ai s))=some v->∀g,v.ownBlock=some g->g≠ra:=λs hs v hv g hg=>by
   obtain⟨v1,l1,h1,_,h3⟩:=i33.nx s hs;rw [hv]at h1;cases h1;rcases h3 with⟨rfl,_⟩ | ⟨b',off,cap,rfl,h2,_⟩
   ·cases hg
   ·cases hg;show b'≠ra;omega
  have hB:Hp w33 ra b r vo (un 2) mm:=⟨⟨i33.c2,i33.lt,i33.mp,λs hs=>by
   obtain⟨v,l,h1,h2,h3⟩:=i33.nx s hs;obtain⟨l',h4,h5⟩:=hcl s hs;rw [h2]at h4;cases h4;exact⟨v,l,h1,h2,h5,h3.ex i33.ex⟩⟩,i33.c1,i33.sl.strs,i33.c5,hn.1.symm,hn.2.symm,λg hg e=>(i33.so g hg).2.2 (.inl e),hval⟩
  have hst:∀s∈un 2,St s:=λs hs=>((ω s).1 hs).elim (sa s) (sb s)
  refine IH hB (hul 2) hst ⟨cB [],⟨#[],0,(i33.pv ra (.inl rfl)).2.trans ea,⟨by simp,by simp,by simp⟩,by simp,λq=>rfl⟩,λ _ _=>rfl⟩ λw141 k141 h141 hA=>?_
  have eb:=k141.block b i33.lt hn.1.symm;refine hR2 a0 b0 (un 2) htol ((ω a0).2 (.inl (hla.2.subset (by simp)))) ((ω b0).2 (.inr (hlb.2.subset (by simp)))) hst (hul 2) ra b r vo mm w141 ?_ h141 hA ?_ ?_
  ·have :=x08.size;exact Ex.below (Ex.trans x08 i33.ex) (Kp.below k141 (by omega) λg hg e=>by omega)
  ·rw [OB (w:=w33) eb];exact i33.c3
  ·rw [OB (w:=w33) eb];exact i33.c4
 have hj2:j< 2:=by simp only [OQ]at hlt;omega
 have ee:=(i33.pv e (.inr rfl)).2;have hx:∃(bx rx Bx:Nat) (n0:Tx) (l:List Tx) (mx:Value->Option Value) (Lx:Nat->Prop),zL Bx bx rx n0 w8 l l.length mx Lx/\l.length<=60/\w33.cell? ⟨e,0+(j:Int).toNat* 1,none⟩=some (ptr bx)/\un (j+1)=a8 (un j) l:=by
  match j,hj2 with
  | 0,_=>exact⟨_,_,_,_,la,_,_,hp,na,by rw [OB (w:=G) ee];exact e0,rfl⟩
  | 1,_=>exact⟨_,_,_,_,lb,_,_,hq,nb,by rw [OB (w:=G) ee];exact e1,rfl⟩
 obtain⟨bx,rx,Bx,n0,l,mx,Lx,hx,hl,hc,hun⟩:=hx;obtain⟨vl,v1,v2,_⟩:=hx.sl;obtain⟨a,cap,hv⟩:=v2.strs.slice;refine⟨e,0,2,2,rfl,by omega,by omega,ptr bx,hc,bx,0,rfl,vl,by rw [i33.ex.cell (a:=⟨bx,0+1,none⟩) hx.lt];exact v1,a,_,cap,hv,λx w'=>∃(i:Nat) (vo:Value) (mm:Value->Option Value),x=i/\i<=l.length/\IU w8 G b r ra (λg=>g=ra\/g=e) a0 b0 vo (a8 (un j) (l.take i)) mm w',λx _=>(l.length - x).toNat,⟨0,vo,mm,rfl,Ps _,i33⟩,λx β hI=>?_⟩;clear i33 ee hc;obtain⟨i,vo,mm,rfl,hi,i48⟩:=hI;refine⟨λhlt2=>?_,λhge2=>?_⟩;rotate_left
 ·have ei:=oE hge2 (by omega);subst ei;rw [O6,<-hun]at i48;exact⟨by omega,⟨j+1,vo,mm,by omega,by omega,i48⟩,by show(2 - ((j:Int)+1)).toNat< (2 - (j:Int)).toNat;omega⟩
 have hil:=oL hlt2;have hcl:=il (l.take i) (un j);rw [Pm]at hcl;have hu:=hul j;have et:a8 (un j) (l.take (i+1))=iu (a8 (un j) (l.take i)) l[i]:=eY hil;refine⟨λw'=>∃(vo:Value) (mm:Value->Option Value),IU w8 G b r ra (λg=>g=ra\/g=e) a0 b0 vo (iu (a8 (un j) (l.take i)) l[i]) mm w',v2.strs.get i48.ex (PN i) (gE hil) (Q:=λn=>_) ⟨_,i48.c2,r,mm,rfl,i48.mp,?_⟩,λw140 h=>?_⟩;rotate_left
 ·obtain⟨vo',mm',h⟩:=h;exact⟨by omega,⟨i+1,vo',mm',by omega,by omega,by rw [et];exact h⟩,tN (by omega)⟩
 generalize a8 (un j) (l.take i)=cur at*;by_cases hs:l[i]∈cur
 ·obtain⟨y,l1,y1,_⟩:=i48.nx _ hs;exact⟨y,true,.inl ⟨rfl,y1⟩,(λh=>by cases h),λ _=>⟨vo,mm,by unfold iu;rw [Pd hs];exact i48⟩⟩
 refine⟨_,false,.inr ⟨rfl,i48.nn _ hs,rfl⟩,λ _=>?_,(λh=>by cases h)⟩;obtain⟨vn,ln,n1,n2,n3,_⟩:=hx.nx i hil hil;have ea:iu cur l[i]=cur++[l[i]]:=OW hs;rw [ea];have s48:=i48.ex.size;have S:∀{w':World},Ex β w'->Ex w8 w'/\w'.cell? ⟨b,1,none⟩=some vo/\w'.cell? ⟨b,2,none⟩=some (.map (some r)):=λx=>⟨(i48.to x).ex,(i48.to x).c1,(i48.to x).c2⟩
 refine⟨λw'=>Ex w8 w'/\w'.cell? ⟨b,1,none⟩=some vo/\w'.cell? ⟨b,2,none⟩=some (.map (some r)),λw61 hw61=>⟨S (hw61▸Ex.drew β),_,λw' h=>h.2.2,_,λw' h=>h.2.1,bx,0,rfl,_,λw' h=>(hx.ex h.1).c2,λb67 w68 ξ W=>?_,?_⟩⟩
 ·have x61:Ex β w61:=hw61▸Ex.drew β;have H:Ex β w68:=Ex.trans x61 (W▸Ex.alloc w61 _);have s68:=H.size;refine⟨S H,?_,rx,mx,rfl,(hx.ex (i48.to H).ex).mp,vn,true,.inl ⟨rfl,n1⟩,S H,?_⟩
  ·refine Own.push (i48.to H).sl (by omega) (Strs.one ξ W) (by simp only [OA,OS];omega) λv' w75 _ ho hg hn=>?_
   obtain⟨⟨q1,q2,q3,q4⟩,f1,f2⟩:=i48.add hs n2 n3 H ho hg hn;exact⟨⟨q1,q2,q3⟩,rx,mx,rfl,(hx.ex q1).mp,vn,true,.inl ⟨rfl,n1⟩,⟨q1,q2,q3⟩,ho.dh,f1,λγ J=>⟨r,mm,rfl,(f2 γ J).1,λu s w86 δ g86 en=>⟨r,.string,_,_,rfl,δ,en,λw91 ε g91=>⟨v',_,(f2 γ J).2 u w86 g86 w91 ε g91⟩⟩⟩⟩
  ·refine Own.push (i48.to H).sl (by omega) (Strs.one ξ W) (by simp only [OA,OS];omega) λv' w75 _ ho hg hn=>?_
   obtain⟨⟨q1,q2,q3,q4⟩,f1,f2⟩:=i48.add hs n2 n3 H ho hg hn;exact⟨⟨q1,q2,q3⟩,ho.dh,f1,λγ J=>⟨r,mm,rfl,(f2 γ J).1,λu s w86 δ g86 en=>⟨r,.string,_,_,rfl,δ,en,λw91 ε g91=>⟨v',_,(f2 γ J).2 u w86 g86 w91 ε g91⟩⟩⟩⟩
 ·have x61:Ex β w61:=hw61▸Ex.drew β;refine⟨rx,mx,rfl,(hx.ex (i48.to x61).ex).mp,vn,true,.inl ⟨rfl,n1⟩,S x61,λb67 w68 ξ W=>?_⟩;have H:Ex β w68:=Ex.trans x61 (W▸Ex.alloc w61 _);have s68:=H.size;refine⟨S H,?_⟩;refine Own.push (i48.to H).sl (by omega) (Strs.one ξ W) (by simp only [OA,OS];omega) λv' w75 _ ho hg hn=>?_
  obtain⟨⟨q1,q2,q3,q4⟩,f1,f2⟩:=i48.add hs n2 n3 H ho hg hn;exact⟨⟨q1,q2,q3⟩,ho.dh,f1,λγ J=>⟨r,mm,rfl,(f2 γ J).1,λu s w86 δ g86 en=>⟨r,.string,_,_,rfl,δ,en,λw91 ε g91=>⟨v',_,(f2 γ J).2 u w86 g86 w91 ε g91⟩⟩⟩⟩
end Go.Proofs.YtdecokaadekjnaaGreat
namespace Go.Proofs.YtdecokaadekjnaaGreat
open Go
attribute [go_sem] Tryz.f27
theorem kv (G:aB)(H:aB)(w:World)(R:Bool->Bool->Sg)(h:vc az (bf [] [] [(4,true,.lt 0 (.lt 1 (.lt 2 (.lt 3 (.lt 4 (.lt 5 (.lt 6 (.lt 7 (.lt 8 (.lt 9 (.lt 10 (.lt 11 (.lt 12 (.one .g 13 (.lt 14 (.lt 15 (.lt 16 (.lt 17 (.lt 18 .done)))))))))))))))))))]) (ab Tryz.f27) (aj 0 [.s G,.s H]) w (fin az [.tmp 4 .b,.tmp 5 .b] R)):
  Sh 27 #[(.string (ai G)),(.string (ai H))] w (aw [.b,.b] R):=
 bE Tryz.func27 (by kernel_rfl) h
attribute [go_sem] Tryz.f29
attribute [go_sem] Tryz.f23
attribute [go_sem] Tryz.f26
theorem jT (G:aB)(H:aB)(w:World)(R:Bool->Bool->Sg)(h:vc az (bf [] [] []) (ab Tryz.f26) (aj 0 [.s G,.s H]) w (fin az [.tmp 4 .b,.tmp 5 .b] R)):
  Sh 26 #[(.string (ai G)),(.string (ai H))] w (aw [.b,.b] R):=
 bE Tryz.func26 (by kernel_rfl) h
attribute [go_sem] Tryz.f28
attribute [go_sem] Tryz.f22
attribute [go_sem] Tryz.f8
theorem fM (G:aB)(a2:aB)(w:World)(R:Bool->Sg)(h:vc az (bf [] [] []) (ab Tryz.f8) (aj 0 [.s G,.s a2]) w (fin az [.tmp 4 .b] R)):
  Sh 8 #[(.string (ai G)),(.string (ai a2))] w (aw [.b] R):=
 bE Tryz.func8 (by kernel_rfl) h
attribute [go_sem] Tryz.f9
attribute [go_sem] Tryz.f6
end Go.Proofs.YtdecokaadekjnaaGreat
namespace Go.Proofs.YtdecokaadekjnaaGreat
open Go Go.RowKit T Classical
section
variable {p q a b:Tx} {c:UInt8}
end
end Go.Proofs.YtdecokaadekjnaaGreat
namespace Go.Proofs.YtdecokaadekjnaaGreat
open Go
attribute [go_sem] Tryz.f55
attribute [go_sem] Tryz.f159
theorem vT (G:Value)(H:Int)(w:World)(R:Bool->Sg)(h:vc az (bf [(2,[(9,.i)])] [] []) (ab Tryz.f159) (aj 0 [.v G,.i H]) w (fin az [.tmp 4 .b] R)):
  Sh 159 #[G,(.int .i64 H)] w (aw [.b] R):=
 bE Tryz.func159 (by kernel_rfl) h
attribute [go_sem] Tryz.f194
theorem kE (w1:Value)(i2:Int)(w:World)(R:aB->Sg)(h:vc az (bf [(3,[(5,.s),(6,.s),(19,.i)])] [] []) (ab Tryz.f194) (aj 0 [.v w1,.i i2]) w (fin az [.tmp 4 .s] R)):
  Sh 194 #[w1,(.int .i64 i2)] w (aw [.s] R):=
 bE Tryz.func194 (by kernel_rfl) h
theorem kO (w1:Value)(i2:Int)(j3:Int)(r4:Int)(w:World)(R:Bool->Sg)(h:bH w1 λb5 o6=>bz w b5 (o6+1) λv7=>cJ v7 i2 λb8 o9=>bz w b8 (o9+i2.toNat* 1) λv12=>dO v12 λδ=>kG 0 w λε α H J=>bC (decide (H< (δ:Int))) (cJ v12 H λζ η=>B3 J ζ (η+H.toNat* 1) λn24=>bH w1 λθ ι=>bz J θ (ι+2) λκ=>cJ κ j3 λμ ν=>bz J μ (ν+j3.toNat* 1) λβ=>dO β λξ=>JH false 0 J λZ V f38 x39 G=>bC (decide (x39< (ξ:Int))) (cJ β x39 λο ς=>B3 G ο (ς+x39.toNat* 1) λW=>Hb f38 (bH w1 λυ φ=>bz G υ (φ+3) λχ=>cJ χ n24 λψ ω=>bz G ψ (ω+n24.toNat* 1) λv53=>cJ v53 W λb54 o55=>B3 G b54 (o55+W.toNat* 1) λn58=>Hb (decide (n58< 0)) (bH w1 λb59 o60=>bz G b59 (o60+3) λv61=>cJ v61 n24 λb62 o63=>bz G b62 (o63+n24.toNat* 1) λv66=>cJ v66 W λb67 o68=>B3 G b67 (o68+W.toNat* 1) λγ=>a7 (x39+1)/\Z ((decide (r4<=γ))) (x39+1) G/\V ((decide (r4<=γ))) (x39+1) G< V f38 x39 G) (a7 (x39+1)/\Z true (x39+1) G/\V true (x39+1) G< V f38 x39 G)) (a7 (x39+1)/\Z true (x39+1) G/\V true (x39+1) G< V f38 x39 G)) (bC (!f38) (R false G) (a7 (H+1)/\ε (H+1) G/\α (H+1) G< α H J))) (R true J)):
  Sh 195 #[w1,(.int .i64 i2),(.int .i64 j3),(.int .i64 r4)] w (aw [.b] R):=
 EK (bf [(2,[(22,.i)]),(6,[(11,.b),(34,.i)])] [] []) [.tmp 8 .b] [.v w1,.i i2,.i j3,.i r4] Tryz.func195 (by kernel_rfl) h
theorem kY (w1:Value)(w:World)(R:Sg)(h:bH w1 λb2 o3=>bz w b2 (o3+0) λv4=>dO v4 λl6=>kG 0 w λI8 m9 ε θ=>bC (decide (ε< (l6:Int))) (bH w1 λb12 o13=>bz θ b12 (o13+0) λv14=>dO v14 λH=>(0<=((H:Int):Int)/\((H:Int):Int)=(H:Int)/\(H:Int)<=1099511627776)/\cc θ (.cells (List.toArray (List.replicate (Int.toNat (H:Int)) (.int .i64 0))) 3) λb18 w19=>dO (.slice (some ⟨b18,0,none⟩) (Int.toNat (H:Int)) (Int.toNat (H:Int))) λl21=>kG 0 w19 λυ ι J ζ=>bC (decide (J< (l21:Int))) (cJ (.slice (some ⟨b18,0,none⟩) (Int.toNat (H:Int)) (Int.toNat (H:Int))) J λb27 o28=>fE ζ b27 (o28+J.toNat* 1) (.int .i64 (-1)) λzF=>NQ 194 #[w1,(.int .i64 ε)] zF λs33 w34=>NQ 194 #[w1,(.int .i64 J)] w34 λs35 ς=>bC (!decide (s33=s35)) (cJ (.slice (some ⟨b18,0,none⟩) (Int.toNat (H:Int)) (Int.toNat (H:Int))) J λb37 o38=>fE ς b37 (o38+J.toNat* 1) (.int .i64 0) λφ=>a7 (J+1)/\υ (J+1) φ/\ι (J+1) φ< ι J ζ) (a7 (J+1)/\υ (J+1) ς/\ι (J+1) ς< ι J ζ)) (bH w1 λb43 o44=>bz ζ b43 (o44+3) λv45=>ay (.slice (some ⟨b18,0,none⟩) (Int.toNat (H:Int)) (Int.toNat (H:Int)))=true/\cc ζ (.cells #[(.slice (some ⟨b18,0,none⟩) (Int.toNat (H:Int)) (Int.toNat (H:Int)))] 36) λb46 w47=>iY 36 1 24 w47 v45 (.slice (some ⟨b46,0,none⟩) 1 1) λv53 w54=>bH w1 λb55 o56=>ay v53=true/\fE w54 b55 (o56+3) v53 λχ=>a7 (ε+1)/\I8 (ε+1) χ/\m9 (ε+1) χ< m9 ε θ)) (JH true 1 θ λI59 ψ ω α κ=>bC ω (bH w1 λb64 o65=>bz κ b64 (o65+0) λv66=>dO v66 λl68=>JH false 0 κ λI70 m71 μ V η=>bC (decide (V< (l68:Int))) (bH w1 λb75 o76=>bz η b75 (o76+0) λv77=>dO v77 λl79=>JH μ 0 η λν β Z G W=>bC (decide (G< (l79:Int))) (bH w1 λb86 o87=>bz W b86 (o87+3) λv88=>cJ v88 V λb89 o90=>bz W b89 (o90+V.toNat* 1) λv93=>cJ v93 G λb94 o95=>B3 W b94 (o95+G.toNat* 1) λn98=>bC (decide (n98< 0)) (Dc 195 #[w1,(.int .i64 V),(.int .i64 G),(.int .i64 α)] W λq99 δ=>Hb (!q99) (Dc 195 #[w1,(.int .i64 G),(.int .i64 V),(.int .i64 α)] δ λq101 γ=>bC (!q101) (bH w1 λb103 o104=>bz γ b103 (o104+3) λv105=>cJ v105 V λb106 o107=>bz γ b106 (o107+V.toNat* 1) λv110=>cJ v110 G λb111 o112=>fE γ b111 (o112+G.toNat* 1) (.int .i64 α) λξ=>a7 (G+1)/\ν true (G+1) ξ/\β true (G+1) ξ< β Z G W) (a7 (G+1)/\ν Z (G+1) γ/\β Z (G+1) γ< β Z G W)) (bH w1 λb117 o118=>bz δ b117 (o118+3) λv119=>cJ v119 V λb120 o121=>bz δ b120 (o121+V.toNat* 1) λv124=>cJ v124 G λb125 o126=>fE δ b125 (o126+G.toNat* 1) (.int .i64 α) λο=>a7 (G+1)/\ν true (G+1) ο/\β true (G+1) ο< β Z G W)) (a7 (G+1)/\ν Z (G+1) W/\β Z (G+1) W< β Z G W)) (a7 (V+1)/\I70 Z (V+1) W/\m71 Z (V+1) W< m71 μ V η)) (a7 (α+1)/\I59 μ (α+1) η/\ψ μ (α+1) η< ψ ω α κ)) (R κ))):
  Sh 160 #[w1] w (aw [] R):=
 EK (bf [(1,[(14,.i)]),(5,[(25,.i)]),(15,[(5,.b),(6,.i)]),(19,[(5,.b),(61,.i)]),(22,[(5,.b),(69,.i)])] [] []) [] [.v w1] Tryz.func160 (by kernel_rfl) h
theorem qd (p1:aB)(q2:aB)(w:World)(R:Value->Bool->Sg)(h:cc w (.cells #[(.slice none 0 0),(.slice none 0 0),(.slice none 0 0),(.slice none 0 0)] 84) λb3 w4=>cc w4 (.cells #[(.slice none 0 0),(.slice none 0 0),(.slice none 0 0),(.slice none 0 0)] 84) λb5 w6=>zk w6 b5 0 4 [(.slice none 0 0),(.slice none 0 0),(.slice none 0 0),(.slice none 0 0)] λw7=>cc w7 (.cells #[(.string (ai p1)),(.string (ai q2))] 9) λb8 w9=>dO (.slice (some ⟨b8,0,none⟩) 2 2) λl11=>kG 0 w9 λI13 m14 δ ν=>bC (decide (δ< (l11:Int))) (cJ (.slice (some ⟨b8,0,none⟩) 2 2) δ λb17 o18=>qU ν b17 (o18+δ.toNat* 1) λs21=>xO 54 #[(.string (ai s21))] ν λv22 q23 w24=>cc w24 (.cells #[(.slice none 0 0),(.slice none 0 0),(.slice none 0 0)] 49) λb25 w26=>∃c27:List Value,v22= .agg (List.toArray c27)/\zk w26 b25 0 3 c27 λε=>bC (!q23) (∃v29:Value,∃v30:Value,∃v31:Value,∃v32:Value,(World.cell? ε ⟨b5,0,none⟩=some v29/\World.cell? ε ⟨b5,1,none⟩=some v30/\World.cell? ε ⟨b5,2,none⟩=some v31/\World.cell? ε ⟨b5,3,none⟩=some v32/\True)/\zk ε b3 0 4 [v29,v30,v31,v32] λξ=>∃r34:Value,∃r35:Value,∃r36:Value,∃r37:Value,(World.cell? ξ ⟨b3,0,none⟩=some r34/\World.cell? ξ ⟨b3,1,none⟩=some r35/\World.cell? ξ ⟨b3,2,none⟩=some r36/\World.cell? ξ ⟨b3,3,none⟩=some r37/\True)/\R (.agg #[r34,r35,r36,r37]) false ξ) (bz ε b25 0 λv38=>dO v38 λl40=>kG 0 ε λI42 χ J ζ=>bC (decide (J< (l40:Int))) (cJ v38 J λb46 o47=>qU ζ b46 (o47+J.toNat* 1) λs50=>bz ζ b5 0 λv51=>IZ 60 #[v51,(.string (ai s50))] ζ λn52 ψ=>bC (decide (n52< 0)) (bz ψ b5 0 λv54=>cc ψ (.cells #[(.string (ai s50))] 9) λb55 w56=>iY 9 1 16 w56 v54 (.slice (some ⟨b55,0,none⟩) 1 1) λv62 w63=>ay v62=true/\fE w63 b5 0 v62 λw65=>a7 (J+1)/\I42 (J+1) w65/\χ (J+1) w65< χ J ζ) (a7 (J+1)/\I42 (J+1) ψ/\χ (J+1) ψ< χ J ζ)) (a7 (δ+1)/\I13 (δ+1) ζ/\m14 (δ+1) ζ< m14 δ ν))) (bz ν b5 0 λv66=>dO v66 λl68=>kG 0 ν λI70 m71 η ο=>bC (decide (η< (l68:Int))) (cJ v66 η λb74 o75=>qU ο b74 (o75+η.toNat* 1) λs78=>xO 102 #[(.string (ai s78))] ο λv79 q80 w81=>dO v79 λl83=>wk (.slice none 0 0) 0 w81 λI85 m86 ω θ μ=>bC (decide (θ< (l83:Int))) (cJ v79 θ λb90 o91=>qU μ b90 (o91+θ.toNat* 1) λs94=>bz μ b5 0 λv95=>IZ 60 #[v95,(.string (ai s94))] μ λn96 w97=>cc w97 (.cells #[(.int .i64 n96)] 3) λb98 w99=>iY 3 1 8 w99 ω (.slice (some ⟨b98,0,none⟩) 1 1) λv105 w106=>a7 (θ+1)/\I85 v105 (θ+1) w106/\m86 v105 (θ+1) w106< m86 ω θ μ) (bz μ b5 1 λv107=>ay ω=true/\cc μ (.cells #[ω] 36) λb108 w109=>iY 36 1 24 w109 v107 (.slice (some ⟨b108,0,none⟩) 1 1) λv115 w116=>ay v115=true/\fE w116 b5 1 v115 λw118=>a7 (η+1)/\I70 (η+1) w118/\m71 (η+1) w118< m71 η ο)) (bz ο b5 0 λv119=>dO v119 λl121=>kG 0 ο λI123 m124 W ς=>bC (decide (W< (l121:Int))) (cc ς (.cells #[(.int .i64 W)] 3) λb127 w128=>wk ((.slice (some ⟨b127,0,none⟩) 1 1)) 0 w128 λI129 m130 Z V ι=>dO Z λl135=>bC (decide (V< (l135:Int))) (iP ι λυ w138=>dA υ b5 1 λv139=>cJ Z V λb140 o141=>wB υ b140 (o141+V.toNat* 1) λn144=>cJ v139 n144 λb145 o146=>dA υ b145 (o146+n144.toNat* 1) λv149=>dO v149 λl151=>wk Z 0 w138 λI153 κ H G α=>bC (decide (G< (l151:Int))) (cJ v149 G λb158 o159=>B3 α b158 (o159+G.toNat* 1) λn162=>Dc 159 #[H,(.int .i64 n162)] α λq163 φ=>bC (!q163) (cc φ (.cells #[(.int .i64 n162)] 3) λb165 w166=>iY 3 1 8 w166 H (.slice (some ⟨b165,0,none⟩) 1 1) λv172 w173=>a7 (G+1)/\I153 v172 (G+1) w173/\κ v172 (G+1) w173< κ H G α) (a7 (G+1)/\I153 H (G+1) φ/\κ H (G+1) φ< κ H G α)) (a7 (V+1)/\I129 H (V+1) α/\m130 H (V+1) α< m130 Z V ι)) (bz ι b5 2 λv174=>ay Z=true/\cc ι (.cells #[Z] 36) λb175 w176=>iY 36 1 24 w176 v174 (.slice (some ⟨b175,0,none⟩) 1 1) λv182 w183=>ay v182=true/\fE w183 b5 2 v182 λw185=>a7 (W+1)/\I123 (W+1) w185/\m124 (W+1) w185< m124 W ς)) (fC 160 #[(.pointer (some ⟨b5,0,none⟩))] ς λβ=>∃v187:Value,∃v188:Value,∃v189:Value,∃v190:Value,(World.cell? β ⟨b5,0,none⟩=some v187/\World.cell? β ⟨b5,1,none⟩=some v188/\World.cell? β ⟨b5,2,none⟩=some v189/\World.cell? β ⟨b5,3,none⟩=some v190/\True)/\zk β b3 0 4 [v187,v188,v189,v190] λγ=>∃r192:Value,∃r193:Value,∃r194:Value,∃r195:Value,(World.cell? γ ⟨b3,0,none⟩=some r192/\World.cell? γ ⟨b3,1,none⟩=some r193/\World.cell? γ ⟨b3,2,none⟩=some r194/\World.cell? γ ⟨b3,3,none⟩=some r195/\True)/\R (.agg #[r192,r193,r194,r195]) true γ)))):
  Sh 108 #[(.string (ai p1)),(.string (ai q2))] w (aw [.v,.b] R):=
 EK (bf [(3,[(30,.i)]),(9,[(45,.i)]),(16,[(65,.i)]),(21,[(17,.v),(76,.i)]),(28,[(98,.i)]),(32,[(21,.v),(22,.i)]),(35,[(21,.v),(118,.i)])] [] [(34,false,.lt 0 (.lt 1 (.lt 2 (.lt 3 (.lt 4 (.lt 5 (.lt 6 (.lt 7 (.lt 8 (.lt 9 .done))))))))))]) [.agg 4 84,.tmp 5 .b] [.s p1,.s q2] Tryz.func108 (by kernel_rfl) h
attribute [go_sem] Tryz.f64
theorem vd (G:aB)(H:aB)(w:World)(R:Value->Int->Int->Bool->Sg)(h:vc az (bf [] [] [(6,true,.lt 0 (.lt 1 (.lt 2 (.lt 3 (.lt 5 (.lt 6 (.lt 7 (.lt 9 (.one .g 4 (.one .g 8 (.one .g 10 (.lt 11 (.lt 12 (.lt 13 .done))))))))))))))]) (ab Tryz.f64) (aj 0 [.s G,.s H]) w (fin az [.agg 4 84,.tmp 5 .i,.tmp 6 .i,.tmp 7 .b] R)):
  Sh 64 #[(.string (ai G)),(.string (ai H))] w (aw [.v,.i,.i,.b] R):=
 bE Tryz.func64 (by kernel_rfl) h
end Go.Proofs.YtdecokaadekjnaaGreat
namespace Go.Proofs.YtdecokaadekjnaaGreat
open Go Go.RowKit T Classical
theorem G6 {w:World}{e:Nat}{x y z:Value}(W:ay x=true)(Z:ay y=true)(hz:ay z=true){K:Nat->Sg}(hK:∀b w',Ex w w'->(∀w2,Ex w' w2->World.cell? w2 ⟨b,0,none⟩=some x/\World.cell? w2 ⟨b,1,none⟩=some y/\World.cell? w2 ⟨b,2,none⟩=some z/\True)->K b w'):
  cc w (.cells #[.slice none 0 0,.slice none 0 0,.slice none 0 0] e) λb w2=>∃c:List Value,(.agg #[x,y,z]:Value)= .agg (List.toArray c)/\zk w2 b 0 3 c λJ=>K b J:=by
 intro b w2 hb G;have x2:Ex w w2:=G▸Ex.alloc w _;have s2:w2.heap.size=w.heap.size+1:=by rw [G,size_alloc]
 refine⟨[x,y,z],rfl,⟨rfl,by simp [W,Z,hz],λj hj=>by rw [Pa];exact GB hb G (Ex.refl _) j hj⟩,λJ V=>?_⟩;obtain⟨k,_,_,H⟩:=aJ (b:=b) [x,y,z] w2 0;rw [show World.setCells w2 b 0 [x,y,z]=J from V.symm]at k H;have H:=λj (hj:j< 3)=>H j (λi hi=>by rw [Pa];exact(GB hb G (Ex.refl _) i hi).1) hj
 simp only [Pa]at H;have s3:=k.size;have x3:Ex w J:=Ex.below x2 (Kp.below k (by omega) λg hg e=>by omega);refine hK b J x3 λw4 x4=>?_
 have c:∀j,w4.cell? ⟨b,j,none⟩=J.cell? ⟨b,j,none⟩:=λj=>x4.cell (a:=⟨b,j,none⟩) (show b< _ by omega)
 exact⟨(c 0).trans (H 0 (by omega)),(c 1).trans (H 1 (by omega)),(c 2).trans (H 2 (by omega)),trivial⟩
theorem aF.cell {e B:Nat}{w:World}{v:Value}{l:List Value}(h:aF e B w v l):(v= .slice none 0 0/\l=[])\/∃g cap,v= .slice (some ⟨g,0,none⟩) l.length cap/\g< w.heap.size/\∀j u,l[j]?=some u->w.cell? ⟨g,j,none⟩=some u:=by
 have V:=h.1;rcases h.2 with⟨H,J⟩ | ⟨g,cap,cur,rfl,hb,G,W,h2,Z,h4⟩
 ·left;exact⟨H,O' J⟩
 ·refine .inr ⟨g,cap,rfl,(Pk.1 G).1,λj u hu=>?_⟩;have hj:j< l.length:=(Pw.1 hu).1;unfold World.cell?;simp only [G];rw [<-h4,Qh (by omega),Qe]at hu;exact hu
structure Gv (w:World)(va vx:Value)(all:List Tx):Prop where
 a:Strs w va all
 x:∀j (h:j< all.length),∃g cap v l,vx= .slice (some ⟨g,0,none⟩) all.length cap/\w.cell? ⟨g,0+(j:Int).toNat* 1,none⟩=some v/\g< w.heap.size/\sM all[j]=some l/\Strs w v l
theorem Gv.ex {w w':World}{va vx:Value}{all:List Tx}(h:Gv w va vx all)(x:Ex w w'):Gv w' va vx all:=by
 refine⟨h.a.ex x,λj hj=>?_⟩;obtain⟨g,cap,v,l,G,h2,H,h4,h5⟩:=h.x j hj;have :=x.size;exact⟨g,cap,v,l,G,by rw [x.cell (a:=⟨g,_,none⟩) H];exact h2,by omega,h4,h5.ex x⟩
structure Iy (w:World)(b:Nat)(all:List Tx)(P:Nat->Prop)(f:Tx->Bool)(w':World):Prop where
 ex:Ex w w'
 lb:w.heap.size<=b
 lt:b< w'.heap.size
 fr:∀j,w'.frozen? ⟨b,j,none⟩=false
 ce:∀j,j< all.length->∃u,w'.cell? ⟨b,j,none⟩=some u
 ok:∀j (h:j< all.length),P j->w'.cell? ⟨b,j,none⟩=some (.bool (f all[j]))
section
variable {w w1 w2:World} {b:Nat} {all:List Tx} {P:Nat->Prop} {f:Tx->Bool}
theorem Iy.to (h:Iy w b all P f w1)(x:Ex w1 w2):Iy w b all P f w2:=by
 have :=x.size;have G:=h.lt;exact⟨Ex.trans h.ex x,h.lb,by omega,λj=>by rw [PO x G];exact h.fr j,λj hj=>by rw [x.cell (a:=⟨b,j,none⟩) G];exact h.ce j hj,λj hj H=>by rw [x.cell (a:=⟨b,j,none⟩) G];exact h.ok j hj H⟩
theorem Iy.set (h:Iy w b all P f w1)(nd:all.Nodup){j off:Nat}(hj:j< all.length)(G:off=j){q:Bool}(hw:w2=w1.setCell ⟨b,off,none⟩ (.bool q)):Iy w b all (λi=>P i\/i=j) (put f all[j] q) w2:=by
 subst G;have k:Kp w1 w2 (λg=>g=b):=hw▸Kr.set w1 off _;have W:=h.lt;have l2:=k.size;have lb:=h.lb;obtain⟨u,hu⟩:=h.ce off hj;have same:w2.cell? ⟨b,off,none⟩=some (.bool q):=by rw [hw];exact OT _ _ _ hu
 have other:∀i,i≠off->w2.cell? ⟨b,i,none⟩=w1.cell? ⟨b,i,none⟩:=λi hi=>by rw [hw];exact OF _ _ _ _ λe=>by injection e with Z H;exact hi H.symm
 refine⟨Ex.below h.ex (Kp.below k h.ex.size λg hg e=>by omega),lb,by omega,λi=>by rw [hw,OV];exact h.fr i,λi hi=>?_,λi hi J=>?_⟩
 ·by_cases e:i=off
  ·exact⟨_,e▸same⟩
  ·rw [other i e];exact h.ce i hi
 ·unfold put;by_cases e:i=off
  ·subst e;rw [Pd rfl];exact same
  ·rw [OW λV=>e ((List.getElem_inj nd).1 V),other i e];exact h.ok i hi (J.resolve_right e)
theorem Iy.mono {H:Nat->Prop}{J:Tx->Bool}(h:Iy w b all P f w1)(V:∀j (hj:j< all.length),H j->P j/\J all[j]=f all[j]):Iy w b all H J w1:=
 ⟨h.ex,h.lb,h.lt,h.fr,h.ce,λj hj G=>by rw [(V j hj G).2];exact h.ok j hj (V j hj G).1⟩
theorem Iy.cnt (h:Iy w b all (λ _=>True) f w1):Proofs.YtdecokaadekjnaaGreat.cnt all (λs=>decide (∃j,∃h:j< all.length,all[j]=s/\w1.cell? ⟨b,j,none⟩=some (.bool true)))=Proofs.YtdecokaadekjnaaGreat.cnt all f:=by
 unfold Proofs.YtdecokaadekjnaaGreat.cnt;refine List.countP_congr λs G=>?_
 rw [OQ];constructor
 ·rintro⟨j,hj,rfl,e⟩
  rw [h.ok j hj trivial]at e;simpa using e
 ·intro e;obtain⟨j,hj,rfl⟩:=Py.1 G;exact⟨j,hj,rfl,by rw [h.ok j hj trivial,e]⟩
end
abbrev tR:Nat:=36
def MO (P:Nat->Value->Sg):Prop:=∀j v (w w':World) (S:Nat->Prop),P j v w->Kp w w' S->(∀g,v.ownBlock=some g->¬S g)->P j v w'
structure B4 (w0:World)(b k:Nat)(P:Nat->Value->Sg)(v:Value)(rs:List Value)(w:World):Prop where
 kp:Kp w0 w λg=>g=b
 lt:b< w0.heap.size
 fr:∀j,w.frozen? ⟨b,j,none⟩=false
 ce:w.cell? ⟨b,k,none⟩=some v
 ot:∀j,j≠k->w.cell? ⟨b,j,none⟩=w0.cell? ⟨b,j,none⟩
 ow:aF tR w0.heap.size w v rs
 rw:∀j (h:j< rs.length),P j rs[j] w
 dj:∀j (h:j< rs.length) g,rs[j].ownBlock=some g->w0.heap.size<=g/\g< w.heap.size/\v.ownBlock≠some g
 di:∀i (hi:i< rs.length) j (hj:j< rs.length) g,rs[i].ownBlock=some g->rs[j].ownBlock=some g->i=j
section
variable {w0 w:World} {b k:Nat} {P:Nat->Value->Sg} {v:Value} {rs:List Value}
theorem B4.to (h:B4 w0 b k P v rs w)(st:MO P){w':World}(x:Ex w w'):B4 w0 b k P v rs w':=by
 have s:=x.size;have H:=h.kp.size;have lt:=h.lt;have c:∀j,w'.cell? ⟨b,j,none⟩=w.cell? ⟨b,j,none⟩:=λj=>x.cell (a:=⟨b,j,none⟩) (show b< _ by omega)
 exact⟨Kp.trans h.kp (Kp.af x _) λ _ _ h=>h,lt,λj=>by rw [PO x (show b< _ by omega)];exact h.fr j,by rw [c];exact h.ce,λj hj=>by rw [c];exact h.ot j hj,h.ow.ex x,λj hj=>st j _ w w' (λ _=>False) (h.rw j hj) (Kp.af x _) λ _ _ h=>h,λj hj g G=>by have :=h.dj j hj g G;exact⟨this.1,by omega,this.2.2⟩,h.di⟩
theorem B4.push (h:B4 w0 b k P v rs w)(st:MO P){r:Value}(hr:P rs.length r w)(hb:∀g,r.ownBlock=some g->w0.heap.size<=g/\g< w.heap.size/\v.ownBlock≠some g/\∀j (hj:j< rs.length),rs[j].ownBlock≠some g)(o1:ay r=true)(hl:rs.length<=1000000000){K:Value->Sg}
  (hK:∀v' w2,ay v'=true->(((∃u,w2.cell? ⟨b,k,none⟩=some u)/\w2.frozen? ⟨b,k,none⟩=false)/\∀w3,w3=w2.setCell ⟨b,k,none⟩ v'->B4 w0 b k P v' (rs++[r]) w3)->K v' w2):
  cc w (.cells #[r] tR) λb1 w1=>iY tR 1 24 w1 v (.slice (some ⟨b1,0,none⟩) 1 1) K:=by
 intro b1 w1 α W;have x1:Ex w w1:=W▸Ex.alloc w _;have s1:w1.heap.size=w.heap.size+1:=by rw [W,size_alloc]
 have s0:=h.kp.size;have lt:=h.lt;refine⟨w0.heap.size,rs.length,1,rs,[r],h.ow.ex x1,by omega,⟨rfl,by simp [o1],.inr ⟨b1,0,1,rfl,λj u hu=>?_⟩⟩,⟨by unfold maxLen;omega,by omega⟩,λv' w2 ho G hn=>?_⟩
 ·match j,hu with
  | 0,hu=>
   cases hu;rw [W,α];exact aa rfl
 have ho:aF tR w0.heap.size w2 v' (rs++[r]):=by unfold aF;rw [OG];exact ho
 have Z:Kp w1 w2 λg=>v.ownBlock=some g:=Kp.aK G λ _ h=>h
 have s2:=Z.size;have vb:=h.ow.block;have e2:=Z.block b (by omega) λe=>by have :=vb b e;omega
 have c2:∀j,w2.cell? ⟨b,j,none⟩=w.cell? ⟨b,j,none⟩:=λj=>by rw [OB (w:=w1) e2,x1.cell (a:=⟨b,j,none⟩) (show b< _ by omega)]
 have f2:∀j,w2.frozen? ⟨b,j,none⟩=false:=λj=>by rw [O7 (w:=w1) e2,PO x1 (show b< _ by omega)];exact h.fr j
 have h2:w2.cell? ⟨b,k,none⟩=some v:=(c2 k).trans h.ce;refine hK v' w2 ho.dh ⟨⟨⟨v,h2⟩,f2 k⟩,λw3 V=>?_⟩;have k3:Kp w2 w3 (λg=>g=b):=V▸Kr.set w2 k v';have s3:=k3.size;have kk:Kp w w3 λg=>v.ownBlock=some g\/g=b:=Kp.trans (Kp.trans (Kp.af x1 _) (Kp.mono (λ _ h=> .inl h) Z) λ _ _ h=>h) k3 λ _ _ h=> .inr h
 have dv:∀g,g< w.heap.size->v.ownBlock≠some g->v'.ownBlock≠some g:=λg G hv e=>(hn g e).elim hv λh=>by omega
 refine⟨Kp.trans h.kp kk λg G e=>e.elim (λe=>by have :=vb g e;omega) id,lt,λj=>by rw [V,OV];exact f2 j,by rw [V];exact OT _ _ _ h2,λj hj=>?_,ho.kp k3 λg G e=>by have :=ho.block g G;omega,λj hj=>?_,λj hj g G=>?_,λi hi j hj g G H=>?_⟩
 ·rw [V,OF _ _ _ _ (λe=>by injection e with e1 e2;exact hj e2.symm),c2];exact h.ot j hj
 ·rw [OG,P0]at hj;by_cases e:j< rs.length
  ·rw [P2 e];exact st _ _ _ _ _ (h.rw j e) kk λg G J=>by
    have :=h.dj j e g G;exact J.elim this.2.2 λJ=>by omega
  ·have e:j=rs.length:=by omega
   subst e;rw [QA (OL _)];simp only [Sd,QO];exact st _ _ _ _ _ hr kk λg G J=>by
    have :=hb g G;exact J.elim this.2.2.1 λJ=>by omega
 ·rw [OG,P0]at hj;by_cases e:j< rs.length
  ·rw [P2 e]at G;have :=h.dj j e g G;exact⟨this.1,by omega,dv g this.2.1 this.2.2⟩
  ·have e:j=rs.length:=by omega
   subst e;rw [QA (OL _)]at G;simp only [Sd,QO]at G;have :=hb g G;exact⟨this.1,by omega,dv g this.2.1 this.2.2.1⟩
 ·rw [OG,P0]at hi hj;by_cases e:i< rs.length<;>by_cases J:j< rs.length
  ·rw [P2 e]at G;rw [P2 J]at H;exact h.di i e j J g G H
  ·have J:j=rs.length:=by omega
   subst J;rw [P2 e]at G;rw [QA (OL _)]at H;simp only [Sd,QO]at H;exact absurd G ((hb g H).2.2.2 i e)
  ·have e:i=rs.length:=by omega
   subst e;rw [P2 J]at H;rw [QA (OL _)]at G;simp only [Sd,QO]at G;exact absurd H ((hb g G).2.2.2 j J)
  ·omega
end
def Ns (w:World)(v:Value)(l:List Nat):Prop:=∃B,aF tI B w v (l.map iv)
theorem Ns.slice {w:World}{v:Value}{l:List Nat}(h:Ns w v l):∃a cap,v= .slice a l.length cap:=by
 obtain⟨B,h⟩:=h;rcases h.cell with⟨rfl,e⟩ | ⟨g,cap,e,_⟩
 ·have:l=[]:=by simpa using e
  subst this;exact⟨_,_,rfl⟩
 ·rw [O3]at e;exact⟨_,_,e⟩
theorem Ns.get {w:World}{v:Value}{l:List Nat}(h:Ns w v l){i:Nat}(hi:i< l.length){K:Int->Prop}(G:K l[i]):cJ v i λb o=>B3 w b (o+(i:Int).toNat* 1) K:=by
 obtain⟨B,h⟩:=h;rcases h.cell with⟨rfl,e⟩ | ⟨g,cap,e,_,hc⟩
 ·have:l=[]:=by simpa using e
  subst this;simp at hi
 ·rw [O3]at e;refine⟨g,0,_,cap,e,by omega,by omega,(l[i]:Int),?_,G⟩;rw [show 0+(i:Int).toNat* 1=i by omega];exact hc i _ (by rw [Qp,OC hi];rfl)
theorem Ns.kp {w w':World}{S:Nat->Prop}{v:Value}{l:List Nat}(h:Ns w v l)(k:Kp w w' S)(G:∀g,v.ownBlock=some g->¬S g):Ns w' v l:=by
 obtain⟨B,h⟩:=h;exact⟨B,h.kp k G⟩
theorem Ns.ex {w w':World}{v:Value}{l:List Nat}(h:Ns w v l)(x:Ex w w'):Ns w' v l:=h.kp (Kp.af x λ _=>False) λ _ _ h=>h
theorem jo {B:Nat}{w:World}{v:Value}{rs:List Value}(h:aF tR B w v rs){i:Nat}(hi:i< rs.length){K:Value->Prop}(G:K rs[i]):cJ v i λb o=>bz w b (o+(i:Int).toNat* 1) K:=by
 rcases h.cell with⟨rfl,e⟩ | ⟨g,cap,e,_,hc⟩
 ·subst e;simp at hi
 ·refine⟨g,0,_,cap,e,by omega,by omega,_,?_,G⟩;rw [show 0+(i:Int).toNat* 1=i by omega];exact hc i _ (OC hi)
def ML (all:List Tx)(ns:List Nat)(P:Tx->Prop):Prop:=(∀n∈ns,∃h:n< all.length,P all[n])/\∀t,P t->∃n∈ns,∃h:n< all.length,all[n]=t
theorem JP {w:World}{v:Value}{l:List Nat}(h:Ns w v l)(hl:l.length<=1000000000){n:Nat}{R:Bool->Sg}(hR:R (decide (n∈l)) w):
  Sh 159 #[v,iv n] w (aw [.b] R):=by
 refine vT v n w R ?_;dsimp only [go_sem];dsimp only [go_sem,UInt8.reduceOfNat,UInt32.reduceOfNat,Nat.reduceAdd];obtain⟨a,cap,W⟩:=h.slice;refine⟨a,_,cap,W,λx w'=>w'=w/\∃j:Nat,x=j/\j<=l.length/\n∉l.take j,λx _=>(l.length - x).toNat,⟨rfl,0,rfl,Ps _,by simp⟩,λx w' Z=>?_⟩;obtain⟨rfl,j,rfl,hj,H⟩:=Z;refine⟨λJ=>?_,λV=>?_⟩
 ·have G:=oL J;refine h.get G ⟨λhe=>?_,λhe=>⟨by omega,⟨rfl,j+1,by omega,by omega,λhm=>?_⟩,tN (by omega)⟩⟩
  ·have he:l[j]=n:=by simp only [OQ]at he;omega
   rw [PG (he▸OK G)]at hR;exact hR
  ·have he:l[j]≠n:=by simp only [OP]at he;omega
   rw [OE G,OM,OJ]at hm;exact hm.elim H λe=>he e.symm
 ·have e:=oE V (by omega);rw [e,O6]at H;rw [PT H]at hR;exact hR
structure IY (w:World)(b:Nat)(all:List Tx)(va vn vr:Value)(ns rs:List Value):Prop where
 lt:b< w.heap.size
 c0:w.cell? ⟨b,0,none⟩=some va
 c1:w.cell? ⟨b,1,none⟩=some vn
 c2:w.cell? ⟨b,2,none⟩=some vr
 a:Strs w va all
 n:∃B,aF tR B w vn ns
 r:∃B,aF tR B w vr rs
 nl:ns.length=all.length
 rl:rs.length=all.length
 nr:∀j (h:j< all.length) (h':j< ns.length),∃l,Ns w ns[j] l/\ML all l (·∈B0 all[j])/\l.length<=12960000
 rr:∀j (h:j< all.length) (h':j< rs.length),∃l,Ns w rs[j] l/\ML all l (nP all[j])/\l.length<=120
 da:va.ownBlock≠some b
 dn:vn.ownBlock≠some b
 dr:vr.ownBlock≠some b
 dns:∀j (h:j< ns.length),ns[j].ownBlock≠some b
 drs:∀j (h:j< rs.length),rs[j].ownBlock≠some b
section
variable {w w':World} {b:Nat} {all:List Tx} {va vn vr:Value} {ns rs:List Value}
theorem IY.kp (h:IY w b all va vn vr ns rs)(k:Kp w w' λg=>g=b)(c:∀j,j≠3->w'.cell? ⟨b,j,none⟩=w.cell? ⟨b,j,none⟩):IY w' b all va vn vr ns rs:=by
 have s:=k.size;have lt:=h.lt;obtain⟨B,V⟩:=h.n;obtain⟨W,hr⟩:=h.r;have nb:∀{v:Value},v.ownBlock≠some b->∀g,v.ownBlock=some g->¬g=b:=λZ g hg e=>Z (e▸hg)
 refine⟨by omega,by rw [c 0 (by omega)];exact h.c0,by rw [c 1 (by omega)];exact h.c1,by rw [c 2 (by omega)];exact h.c2,h.a.zI k (nb h.da),⟨B,V.kp k (nb h.dn)⟩,⟨W,hr.kp k (nb h.dr)⟩,h.nl,h.rl,λj hj G=>?_,λj hj G=>?_,h.da,h.dn,h.dr,h.dns,h.drs⟩
 ·obtain⟨l,H,h2,J⟩:=h.nr j hj G;exact⟨l,H.kp k (nb (h.dns j G)),h2,J⟩
 ·obtain⟨l,H,h2,J⟩:=h.rr j hj G;exact⟨l,H.kp k (nb (h.drs j G)),h2,J⟩
theorem IY.ex (h:IY w b all va vn vr ns rs)(x:Ex w w'):IY w' b all va vn vr ns rs:=h.kp (Kp.af x _) λj _=>x.cell (a:=⟨b,j,none⟩) h.lt
theorem AJ (h:IY w b all va vn vr ns rs)(α:∀s∈all,St s)(hl:all.length<=120){i:Nat}(hi:i< all.length){R:aB->Sg}(hR:∀w',Ex w w'->R (p6 33 all[i]++[47]++p6 63 all[i]) w'):
  Sh 194 #[ptr b,iv i] w (aw [.s] R):=by
 refine kE _ i w R ?_;dsimp only [go_sem];dsimp only [go_sem,UInt8.reduceOfNat,UInt32.reduceOfNat,Nat.reduceAdd];obtain⟨B,hr⟩:=h.r;have W:i< rs.length:=by rw [h.rl];exact hi
 obtain⟨l,l1,l2,l3⟩:=h.rr i hi W;obtain⟨a,cap,hv⟩:=l1.slice;refine⟨b,0,rfl,vr,h.c2,jo hr W (K:=λv=>_) ⟨a,_,cap,hv,λs r x w'=>∃j:Nat,x=j/\j<=l.length/\Ex w w'/\jb s/\jb r/\(∀c,c∈s↔∃n∈l.take j,c∈lV 33 (all.getD n []))/\(∀c,c∈r↔∃n∈l.take j,c∈lV 63 (all.getD n [])),λ _ _ x _=>(l.length - x).toNat,⟨0,rfl,Ps _,Ex.refl _,List.Pairwise.nil,List.Pairwise.nil,by simp,by simp⟩,λs r x w' hI=>?_⟩⟩;obtain⟨j,rfl,hj,x,s1,r1,H,J⟩:=hI;have Z:∀{n:Nat} (h:n< all.length),all.getD n []=all[n]:=λh=>by rw [P3,OC h];rfl
 refine⟨λβ=>?_,λγ=>?_⟩;rotate_left
 ·have e:=oE γ (by omega);rw [e,O6]at H J;have key:∀{k:UInt8} {s:Tx},jb s->(∀c,c∈s↔∃n∈l,c∈lV k (all.getD n []))->s=p6 k all[i]:=λ{k s} h1 h2=>tj h1 (y8 _ _) λc=>by
   rw [h2,DZ];constructor
   ·rintro⟨n,G,h4⟩
    obtain⟨h5,h6⟩:=l2.1 n G;exact⟨_,h6,by rw [Z h5]at h4;exact h4⟩
   ·rintro⟨t,G,h4⟩
    obtain⟨n,h5,h6,rfl⟩:=l2.2 t G;exact⟨n,h5,by rw [Z h6];exact h4⟩
  have w1:=Eh 33 all[i];have w2:=Eh 63 all[i];rw [key s1 H,key r1 J];refine⟨by simp only [P0];omega,by rw [OG,P0];omega,hR w' x⟩
 have V:=oL β;obtain⟨hn,_⟩:=l2.1 _ (OK V);have h':=h.ex x;refine(l1.ex x).get V (K:=λn=>_) ⟨b,0,rfl,va,h'.c0,h'.a.get (Ex.refl _) (i:=l[j]) (x:=all[l[j]]) (by omega) (by rw [OO];exact OC hn) (Q:=λn=>_) ?_⟩;have b1:=Ad 33 all[l[j]];have b2:=Ad 63 all[l[j]];have mem:∀{k:UInt8} {s s':Tx},(∀c,c∈s↔∃t∈l.take j,c∈lV k (all.getD t []))->(∀c,c∈s'↔c∈s\/c∈lV k all[l[j]])->∀c,c∈s'↔∃t∈l.take (j+1),c∈lV k (all.getD t []):=λ{k s s'} h1 h2 c=>by
  rw [h2,h1,OE V];simp only [OM,OJ];constructor
  ·rintro(⟨t,G,h4⟩ | G)
   ·exact⟨t,.inl G,h4⟩
   ·exact⟨_,.inr rfl,by rw [Z hn];exact G⟩
  ·rintro⟨t,G | rfl,h4⟩
   ·exact .inl ⟨t,G,h4⟩
   ·rw [Z hn]at h4;exact .inr h4
 refine FG (α _ (OK hn)) λw1 x1=>fN s1 (by omega) λs' w2 x2 s2 δ=>fN r1 (by omega) λr' w3 x3 r2 ε=>?_
 exact⟨by omega,⟨j+1,by omega,by omega,Ex.trans x (Ex.trans x1 (Ex.trans x2 x3)),s2,r2,mem H δ,mem J ε⟩,tN (by omega)⟩
structure IX (w:World)(b:Nat)(N:Nat)(vx:Value)(xs:List Value)(A:Nat->Nat->Int):Prop where
 c3:w.cell? ⟨b,3,none⟩=some vx
 x:∃B,aF tR B w vx xs
 xl:xs.length=N
 xr:∀i (h:i< xs.length),∃g cap,xs[i]= .slice (some ⟨g,0,none⟩) N cap/\g< w.heap.size/\(∀j,w.frozen? ⟨g,j,none⟩=false)/\∀j,j< N->w.cell? ⟨g,j,none⟩=some (.int .i64 (A i j))
theorem IX.get {N:Nat}{vx:Value}{xs:List Value}{A:Nat->Nat->Int}(h:IX w b N vx xs A){i j:Nat}(hi:i< N)(hj:j< N){K:Int->Prop}(H:K (A i j)):
  bH (ptr b) λb2 o=>bz w b2 (o+3) λv=>cJ v i λb3 J=>bz w b3 (J+(i:Int).toNat* 1) λv4=>cJ v4 j λb5 V=>B3 w b5 (V+(j:Int).toNat* 1) K:=by
 obtain⟨B,W⟩:=h.x;have G:i< xs.length:=by rw [h.xl];exact hi
 obtain⟨g,cap,e,_,_,hc⟩:=h.xr i G;refine⟨b,0,rfl,vx,h.c3,jo W G (K:=λv=>_) ⟨g,0,_,cap,e,by omega,by omega,_,?_,H⟩⟩;rw [show 0+(j:Int).toNat* 1=j by omega];exact hc j hj
theorem Ix (h:IY w b all va vn vr ns rs){vx:Value}{xs:List Value}{A:Nat->Nat->Int}(ha:IX w b all.length vx xs A){r:Nat}{F:Tx->Tx->Option Nat}(hA:∀k n (H:k< all.length) (hn:n< all.length),(A k n< 0\/(r:Int)<=A k n)↔F all[k] all[n]=none){i j:Nat}(hi:i< all.length)(hj:j< all.length){R:Bool->Sg}(hR:R (decide (Hf F all[i] all[j])) w):
  Sh 195 #[ptr b,iv i,iv j,iv r] w (aw [.b] R):=by
 refine kO _ i j r w R ?_;obtain⟨Bn,hn⟩:=h.n;obtain⟨Br,hr⟩:=h.r;have β:i< ns.length:=by rw [h.nl];exact hi
 have γ:j< rs.length:=by rw [h.rl];exact hj
 obtain⟨l,l1,l2,l3⟩:=h.nr i hi β;obtain⟨m,m1,m2,m3⟩:=h.rr j hj γ;obtain⟨a,cap,hv⟩:=l1.slice;obtain⟨a',δ,η⟩:=m1.slice;refine⟨b,0,rfl,vn,h.c1,jo hn β (K:=λv=>_) ⟨a,_,cap,hv,λx w'=>w'=w/\∃c:Nat,x=c/\c<=l.length/\∀k∈l.take c,∃n∈m,A k n< 0\/(r:Int)<=A k n,λx _=>(l.length - x).toNat,⟨rfl,0,rfl,Ps _,by simp⟩,λx w' hI=>?_⟩⟩;obtain⟨rfl,c,rfl,hc,hI⟩:=hI;refine⟨λθ=>?_,λι=>?_⟩;rotate_left
 ·have e:=oE ι (by omega);rw [e,O6]at hI;rw [PG (show Hf F all[i] all[j]from λk H=>?_)]at hR
  ·exact hR
  ·obtain⟨n,V,h2,rfl⟩:=l2.2 k H;obtain⟨o,h3,h4⟩:=hI n V;obtain⟨h5,h6⟩:=m2.1 o h3;exact⟨_,h6,(hA n o h2 h5).1 h4⟩
 have W:=oL θ;obtain⟨H,κ⟩:=l2.1 _ (OK W);refine l1.get W (K:=λn=>_) ⟨b,0,rfl,vr,h.c2,jo hr γ (K:=λv=>_) ⟨a',_,δ,η,λf x w2=>w2=w'/\∃d:Nat,x=d/\d<=m.length/\(f=true↔∃n∈m.take d,A l[c] n< 0\/(r:Int)<=A l[c] n),λ _ x _=>(m.length - x).toNat,⟨rfl,0,rfl,Ps _,by simp⟩,λf x w2 G=>?_⟩⟩;obtain⟨rfl,d,rfl,hd,G⟩:=G;refine⟨λε=>?_,λζ=>?_⟩;rotate_left
 ·have e:=oE ζ (by omega);rw [e,O6]at G;refine⟨λJ=>?_,λJ=>⟨by omega,⟨rfl,c+1,by omega,by omega,λk H=>?_⟩,tN (by omega)⟩⟩
  ·rw [PT (show ¬Hf F all[i] all[j]from λhh=>?_)]at hR
   ·exact hR
   ·obtain⟨t,V,h2⟩:=hh _ κ;obtain⟨n,h3,h4,rfl⟩:=m2.2 t V;have:f=true:=G.2 ⟨n,h3,(hA _ n H h4).2 h2⟩;rw [this]at J;cases J
  ·rw [OE W,OM,OJ]at H;rcases H with H | rfl
   ·exact hI k H
   ·exact G.1 (by simpa using J)
 have Z:=oL ε;obtain⟨hn,_⟩:=m2.1 _ (OK Z);have α:=@tN m.length d (by omega);have up:(∃n∈m.take (d+1),A l[c] n< 0\/(r:Int)<=A l[c] n)↔(∃n∈m.take d,A l[c] n< 0\/(r:Int)<=A l[c] n)\/(A l[c] m[d]< 0\/(r:Int)<=A l[c] m[d]):=by
  rw [OE Z];simp only [OM,OJ];constructor
  ·rintro⟨n,V | rfl,h2⟩
   ·exact .inl ⟨n,V,h2⟩
   ·exact .inr h2
  ·rintro(⟨n,V,h2⟩ | h2)
   ·exact⟨n,.inl V,h2⟩
   ·exact⟨_,.inr rfl,h2⟩
 refine m1.get Z (K:=λn=>_) ⟨λJ=>ha.get H hn (K:=λn=>_) ⟨λhq=>ha.get H hn (K:=λn=>_) ?_,λhq=>?_⟩,λJ=>?_⟩
 ·refine⟨by omega,⟨rfl,d+1,by omega,by omega,?_⟩,α⟩;have hq:¬A l[c] m[d]< 0:=by simpa using hq
  rw [up,<-G,J,decide_eq_true_iff];simp only [Qs,R7,hq]
 ·refine⟨by omega,⟨rfl,d+1,by omega,by omega,?_⟩,α⟩;have hq:A l[c] m[d]< 0:=by simpa using hq
  rw [up];simp only [hq,true_or,or_true]
 ·refine⟨by omega,⟨rfl,d+1,by omega,by omega,?_⟩,α⟩;rw [up,<-G,J];simp only [true_or]
end
def Row (N:Nat)(A:Nat->Nat->Int)(j:Nat)(v:Value)(w:World):Prop:=
 ∃g cap,v= .slice (some ⟨g,0,none⟩) N cap/\g< w.heap.size/\(∀i,w.frozen? ⟨g,i,none⟩=false)/\∀i,i< N->w.cell? ⟨g,i,none⟩=some (.int .i64 (A j i))
theorem pT (N:Nat)(A:Nat->Nat->Int):MO (Row N A):=by
 rintro j v w w' S ⟨g,cap,rfl,G,h2,H⟩ k J
 have e:=k.block g G (J g rfl);have :=k.size;exact⟨g,cap,rfl,by omega,λi=>by rw [O7 (w:=w) e];exact h2 i,λi hi=>by rw [OB (w:=w) e];exact H i hi⟩
structure zG (w:World)(b N:Nat)(vx:Value)(xs:List Value)(A:Nat->Nat->Int)(w':World):Prop where
 kp:Kp w w' λg=>g=b
 ot:∀j,j≠3->w'.cell? ⟨b,j,none⟩=w.cell? ⟨b,j,none⟩
 ap:IX w' b N vx xs A
 lt:b< w.heap.size
 vb:∀g,vx.ownBlock=some g->w.heap.size<=g
 xb:∀j (h:j< xs.length) g,xs[j].ownBlock=some g->w.heap.size<=g/\vx.ownBlock≠some g
 xd:∀i (hi:i< xs.length) j (hj:j< xs.length) g,xs[i].ownBlock=some g->xs[j].ownBlock=some g->i=j
theorem zG.of {w w':World}{b N:Nat}{vx:Value}{xs:List Value}{A:Nat->Nat->Int}(h:B4 w b 3 (Row N A) vx xs w')(H:xs.length=N):zG w b N vx xs A w':=
 ⟨h.kp,h.ot,⟨h.ce,⟨_,h.ow⟩,H,λi hi=>h.rw i hi⟩,h.lt,λg G=>(h.ow.block g G).1,λj hj g G=>⟨(h.dj j hj g G).1,(h.dj j hj g G).2.2⟩,h.di⟩
section
variable {w w':World} {b N:Nat} {vx:Value} {xs:List Value} {A:Nat->Nat->Int}
theorem zG.congr (h:zG w b N vx xs A w'){G:Nat->Nat->Int}(e:∀i j,i< N->j< N->A i j=G i j):zG w b N vx xs G w':=by
 refine⟨h.kp,h.ot,⟨h.ap.c3,h.ap.x,h.ap.xl,λi hi=>?_⟩,h.lt,h.vb,h.xb,h.xd⟩;obtain⟨g,cap,H,h2,J,h4⟩:=h.ap.xr i hi;exact⟨g,cap,H,h2,J,λj hj=>by rw [<-e i j (by have :=h.ap.xl;omega) hj];exact h4 j hj⟩
theorem zG.ex (h:zG w b N vx xs A w'){w2:World}(x:Ex w' w2):zG w b N vx xs A w2:=by
 obtain⟨B,G⟩:=h.ap.x;have s:=x.size;have H:=h.kp.size;have lt:=h.lt;refine⟨Kp.trans h.kp (Kp.af x _) λ _ _ h=>h,λj hj=>by rw [x.cell (a:=⟨b,j,none⟩) (show b< _ by omega)];exact h.ot j hj,⟨by rw [x.cell (a:=⟨b,3,none⟩) (show b< _ by omega)];exact h.ap.c3,⟨B,G.ex x⟩,h.ap.xl,λi hi=>?_⟩,lt,h.vb,h.xb,h.xd⟩;exact pT N A i _ w' w2 (λ _=>False) (h.ap.xr i hi) (Kp.af x _) λ _ _ h=>h
theorem zG.set (h:zG w b N vx xs A w'){i j:Nat}(hi:i< N)(hj:j< N){r:Int}{K:Sg}(hK:∀w2,zG w b N vx xs (λa c=>if a=i/\c=j then r else A a c) w2->K w2):
  bH (ptr b) λb2 o=>bz w' b2 (o+3) λv=>cJ v i λb3 o3=>bz w' b3 (o3+(i:Int).toNat* 1) λv4=>cJ v4 j λb5 o5=>fE w' b5 (o5+(j:Int).toNat* 1) (.int .i64 r) K:=by
 obtain⟨B,hx⟩:=h.ap.x;have H:i< xs.length:=by rw [h.ap.xl];exact hi
 obtain⟨g,cap,e,hg,hf,hc⟩:=h.ap.xr i H;have eo:xs[i].ownBlock=some g:=by rw [e];rfl
 obtain⟨x1,x2⟩:=h.xb i H g eo;have lt:=h.lt;have s0:=h.kp.size;refine⟨b,0,rfl,vx,h.ap.c3,jo hx H (K:=λv=>_) ⟨g,0,_,cap,e,by omega,by omega,?_⟩⟩;have ej:0+(j:Int).toNat* 1=j:=by omega
 refine⟨⟨⟨_,by rw [ej];exact hc j hj⟩,by rw [ej];exact hf j⟩,λw2 G=>hK w2 ?_⟩;rw [ej]at G;have k:Kp w' w2 (λJ=>J=g):=G▸Kr.set w' j _;have s:=k.size;have eb:=k.block b (by omega) (by omega);have cb:∀j,w2.cell? ⟨b,j,none⟩=w'.cell? ⟨b,j,none⟩:=λj=>OB (w:=w') eb
 refine⟨Kp.trans h.kp k λJ W e=>by omega,λj hj=>by rw [cb];exact h.ot j hj,⟨by rw [cb];exact h.ap.c3,⟨B,hx.kp k λJ h1 h2=>x2 (h2▸h1)⟩,h.ap.xl,λa ha=>?_⟩,lt,h.vb,h.xb,h.xd⟩;obtain⟨J,Z,e',W,α,β⟩:=h.ap.xr a ha;by_cases ea:a=i
 ·subst ea;rw [e]at e';cases e';refine⟨g,cap,e,by omega,λj=>by rw [G,OV];exact hf j,λc V=>?_⟩;by_cases ec:c=j
  ·subst ec;rw [Pd ⟨rfl,rfl⟩,G];exact OT _ _ _ (hc c hj)
  ·rw [OW λh=>ec h.2,G,OF _ _ _ _ λe=>by injection e with e1 e2;exact ec e2.symm];exact hc c V
 ·have ne:J≠g:=λeg=>ea (h.xd a ha i H g (by rw [e',eg];rfl) eo)
  have e2:=k.block J W ne;refine⟨J,Z,e',by omega,λj=>by rw [O7 (w:=w') e2];exact α j,λc V=>?_⟩;rw [OW λh=>ea h.1,OB (w:=w') e2];exact β c V
end
def azN (o:Option Nat):Int:=match o with
 | none=> -1
 | some k=>k
noncomputable def Az (all:List Tx)(F:Tx->Tx->Option Nat)(i j:Nat):Int:=azN (F (all.getD i []) (all.getD j []))
theorem mo {all:List Tx}{F:Tx->Tx->Option Nat}{i j:Nat}(hi:i< all.length)(hj:j< all.length):Az all F i j=azN (F all[i] all[j]):=by
 unfold Az;rw [P3,OC hi,P3,OC hj];rfl
noncomputable def Am (all:List Tx)(n i0 j0 i j:Nat):Int:=if i< i0\/(i=i0/\j< j0)then Az all (ap (n+1)) i j else Az all (ap n) i j
theorem Lg {n:Nat}{s t:Tx}:(azN (ap n s t)< 0\/((n+1:Nat):Int)<=azN (ap n s t))↔ap n s t=none:=by
 cases e:ap n s t with
 | none=>simp [azN]
 | some k=>
  have :=GP e;simp only [azN,reduceCtorEq,iff_false];omega
theorem Mh {n:Nat}{s t:Tx}:(azN (ap (n+1) s t)< 0\/((n+1:Nat):Int)<=azN (ap (n+1) s t))↔ap n s t=none:=by
 cases e:ap n s t with
 | some k=>
  have :=GP e;rw [jJ e];simp only [azN,reduceCtorEq,iff_false];omega
 | none=>
  rw [fF e];split<;>simp [azN]
theorem xu {all:List Tx}{n i0 j0 i j:Nat}(hi:i< all.length)(hj:j< all.length):(Am all n i0 j0 i j< 0\/((n+1:Nat):Int)<=Am all n i0 j0 i j)↔ap n all[i] all[j]=none:=by
 unfold Am;split
 ·rw [mo hi hj];exact Mh
 ·rw [mo hi hj];exact Lg
theorem Jn {all:List Tx}{n i j:Nat}:Am all n 0 0 i j=Az all (ap n) i j:=by unfold Am;rw [OW (by omega)]
theorem MD {all:List Tx}{n i0 i j:Nat}(hj:j< all.length):Am all n i0 all.length i j=Am all n (i0+1) 0 i j:=by
 unfold Am;have:(i< i0\/i=i0/\j< all.length)↔(i< i0+1\/i=i0+1/\j< 0):=by omega
 simp only [this]
theorem L7 {all:List Tx}{n i j:Nat}(hi:i< all.length):Am all n all.length 0 i j=Az all (ap (n+1)) i j:=by unfold Am;rw [Pd (.inl hi)]
theorem K4 {all:List Tx}{n i0 j0:Nat}:Am all n i0 j0 i0 j0=Az all (ap n) i0 j0:=by unfold Am;rw [OW (by omega)]
theorem Ec {all:List Tx}{n i0 j0 i j:Nat}:Am all n i0 (j0+1) i j=if i=i0/\j=j0 then Az all (ap (n+1)) i j else Am all n i0 j0 i j:=by
 unfold Am;by_cases e:i=i0/\j=j0
 ·rw [Pd (by omega),Pd e]
 ·rw [OW e];have:(i< i0\/i=i0/\j< j0+1)↔(i< i0\/i=i0/\j< j0):=by omega
  simp only [this]
def IV (all:List Tx)(n i0 j0:Nat)(c:Bool):Prop:=(c=false->∀i j,(i< i0\/i=i0/\j< j0)->∀(hi:i< all.length) (hj:j< all.length),ap (n+1) all[i] all[j]=ap n all[i] all[j])/\(c=true->∃s∈all,∃t∈all,ap n s t=none/\ap (n+1) s t≠none)
theorem IV.skip {all:List Tx}{n i0 j0:Nat}{c:Bool}(h:IV all n i0 j0 c)(hi:i0< all.length)(hj:j0< all.length)(e:ap (n+1) all[i0] all[j0]=ap n all[i0] all[j0]):IV all n i0 (j0+1) c:=by
 refine⟨λhc i j G hi hj=>?_,h.2⟩;by_cases H:i=i0/\j=j0
 ·obtain⟨rfl,rfl⟩:=H;exact e
 ·exact h.1 hc i j (by omega) hi hj
theorem IV.row {all:List Tx}{n i0:Nat}{c:Bool}(h:IV all n i0 all.length c):IV all n (i0+1) 0 c:=⟨λhc i j G hi hj=>h.1 hc i j (by omega) hi hj,h.2⟩
theorem Jl {all:List Tx}{n:Nat}{s t:Tx}(H:s∈all)(J:t∈all)(V:ap n s t=none)(h2:ap (n+1) s t≠none):uv all (ap (n+1))< uv all (ap n):=by
 unfold uv;refine wI (λp _ G=>?_) (zz.2 ⟨H,J⟩) (PG V) (PT h2);have G:ap (n+1) p.1 p.2=none:=O1 G;refine PG ?_;cases e:ap n p.1 p.2 with
 | none=>rfl
 | some k=>rw [jJ e]at G;cases G
structure Ge (w:World)(g N:Nat)(f:Nat->Option Int)(w':World):Prop where
 kp:Kp w w' λq=>q=g
 lt:g< w.heap.size
 fr:∀k,w'.frozen? ⟨g,k,none⟩=false
 ce:∀k,k< N->∃u,w'.cell? ⟨g,k,none⟩=some u
 ok:∀k n,f k=some n->w'.cell? ⟨g,k,none⟩=some (.int .i64 n)
section
variable {w w' w2:World} {g N:Nat} {f:Nat->Option Int}
theorem Ge.ex (h:Ge w g N f w')(x:Ex w' w2):Ge w g N f w2:=by
 have s:=h.kp.size;have lt:=h.lt;have c:∀k,w2.cell? ⟨g,k,none⟩=w'.cell? ⟨g,k,none⟩:=λk=>x.cell (a:=⟨g,k,none⟩) (show g< _ by omega)
 exact⟨Kp.trans h.kp (Kp.af x _) λ _ _ h=>h,lt,λk=>by rw [PO x (show g< _ by omega)];exact h.fr k,λk G=>by rw [c];exact h.ce k G,λk n H=>by rw [c];exact h.ok k n H⟩
theorem Ge.set (h:Ge w g N f w'){j:Nat}(hj:j< N){n:Int}(hw:w2=w'.setCell ⟨g,j,none⟩ (.int .i64 n)){G:Nat->Option Int}(H:∀k m,G k=some m->(k=j/\m=n)\/(k≠j/\f k=some m)):Ge w g N G w2:=by
 obtain⟨u,hu⟩:=h.ce j hj;have k:Kp w' w2 (λq=>q=g):=hw▸Kr.set w' j _;have same:w2.cell? ⟨g,j,none⟩=some (.int .i64 n):=by rw [hw];exact OT _ _ _ hu
 have other:∀i,i≠j->w2.cell? ⟨g,i,none⟩=w'.cell? ⟨g,i,none⟩:=λi hi=>by rw [hw];exact OF _ _ _ _ λe=>by injection e with V J;exact hi J.symm
 refine⟨Kp.trans h.kp k λ _ _ h=>h,h.lt,λi=>by rw [hw,OV];exact h.fr i,λi hi=>?_,λi m hm=>?_⟩
 ·by_cases e:i=j
  ·exact⟨_,e▸same⟩
  ·rw [other i e];exact h.ce i hi
 ·rcases H i m hm with⟨rfl,rfl⟩ | ⟨e,h2⟩
  ·exact same
  ·rw [other i e];exact h.ok i m h2
end
theorem Mv {w:World}{b:Nat}{all:List Tx}{va vn vr:Value}{ns rs:List Value}(h:IY w b all va vn vr ns rs)(χ:∀s∈all,St s)(hl:all.length<=120)(hcl:Cl all)(h3:w.cell? ⟨b,3,none⟩=some (.slice none 0 0))(hf:∀j,w.frozen? ⟨b,j,none⟩=false){R:Sg}
  (hR:∀w' vx xs,Kp w w' (λg=>g=b)->(∀j,j≠3->w'.cell? ⟨b,j,none⟩=w.cell? ⟨b,j,none⟩)->IX w' b all.length vx xs (Az all zK)->(∀g,vx.ownBlock=some g->w.heap.size<=g)->(∀j (h:j< xs.length) g,xs[j].ownBlock=some g->w.heap.size<=g)->R w'):
  Sh 160 #[ptr b] w (aw [] R):=by
 refine kY _ w R ?_;obtain⟨a,cap,hv⟩:=h.a.slice;have i0:B4 w b 3 (Row all.length (Az all (ap 0))) (.slice none 0 0) [] w:=⟨Kp.af (Ex.refl _) _,h.lt,hf,h3,λ _ _=>rfl,aF.nil _ _ _,(λj hj=>by simp at hj),(λj hj=>by simp at hj),λj hj=>by simp at hj⟩
 refine⟨b,0,rfl,va,h.c0,a,_,cap,hv,λx w'=>∃(i:Nat) (vx:Value) (xs:List Value),x=i/\i<=all.length/\xs.length=i/\B4 w b 3 (Row all.length (Az all (ap 0))) vx xs w',λx _=>(all.length - x).toNat,⟨0,_,[],rfl,Ps _,rfl,i0⟩,λx δ hI=>?_⟩;clear i0;obtain⟨i,vx,xs,rfl,hi,ς,γ⟩:=hI;have hP:=h.kp γ.kp γ.ot;have s11:=γ.kp.size;have lt:=h.lt;refine⟨λυ=>?_,λθ=>?_⟩
 ·have H:=oL υ;refine⟨b,0,rfl,va,hP.c0,a,_,cap,hv,⟨by omega,rfl,by omega⟩,?_⟩;rw [OO];intro g J hg α;have ψ:Ex δ J:=α▸Ex.alloc δ _;have s19:J.heap.size=δ.heap.size+1:=by rw [α,size_alloc]
  have i19:Ge J g all.length (λ _=>none) J:=⟨Kp.af (Ex.refl _) _,by omega,λk=>by rw [α,hg];exact aG _ _ _ _,λk hk=>⟨.int .i64 0,by rw [α,hg];exact aa (by rw [Rb,List.getElem?_replicate,Pd hk])⟩,λk n hn=>by cases hn⟩
  clear α;refine⟨some ⟨g,0,none⟩,all.length,all.length,rfl,λx w'=>∃j:Nat,x=j/\j<=all.length/\Ge J g all.length (λk=>if k< j then some (Az all (ap 0) i k)else none) w',λx _=>(all.length - x).toNat,⟨0,rfl,Ps _,⟨i19.kp,i19.lt,i19.fr,i19.ce,λk n hn=>by rw [OW (by omega)]at hn;cases hn⟩⟩,λx w26 hI=>?_⟩;clear i19;obtain⟨j,rfl,hj,i26⟩:=hI;have x26:Ex δ w26:=Ex.below ψ (Kp.below i26.kp (by omega) λq Z e=>by omega);have s26:=i26.kp.size;refine⟨λε=>?_,λζ=>?_⟩
  ·have G:=oL ε;have ej:0+(j:Int).toNat* 1=j:=by omega
   have η:=@tN all.length j (by omega);refine⟨g,0,_,_,rfl,by omega,by omega,⟨by rw [ej];exact i26.ce j G,by rw [ej];exact i26.fr j⟩,λzF κ=>?_⟩;rw [ej]at κ;have up:∀{n:Int} {w' w2:World} {f:Nat->Option Int},Ge J g all.length f w'->(∀k,k< j->f k=some (Az all (ap 0) i k))->w2=w'.setCell ⟨g,j,none⟩ (.int .i64 n)->Ge J g all.length (λk=>if k=j then some n else if k< j then some (Az all (ap 0) i k)else none) w2:=λ{n w' w2 f} h hf hw=>h.set G hw λk m hm=>by
    by_cases e:k=j
    ·rw [Pd e]at hm;exact .inl ⟨e,(Pu hm).symm⟩
    ·rw [OW e]at hm;split at hm
     ·rename_i hk;exact .inr ⟨e,by rw [hf k hk];exact hm⟩
     ·cases hm
   have i32:=up i26 (λk hk=>Pd hk) κ;have ω:Ex δ zF:=Ex.below ψ (Kp.below i32.kp (by omega) λq Z e=>by omega);have fin:∀{n:Int} {w':World},Ge J g all.length (λk=>if k=j then some n else if k< j then some (Az all (ap 0) i k)else none) w'->n=Az all (ap 0) i j->Ge J g all.length (λk=>if k< j+1 then some (Az all (ap 0) i k)else none) w':=λ{n w'} h hn=>⟨h.kp,h.lt,h.fr,h.ce,λk m hm=>h.ok k m (by
    split at hm
    ·rename_i hk;by_cases e:k=j
     ·subst e;rw [Pd rfl,hn];exact hm
     ·rw [OW e,Pd (by omega)];exact hm
    ·cases hm)⟩
   refine AJ (hP.ex ω) χ hl H λw34 x34=>AJ (hP.ex (Ex.trans ω x34)) χ hl G λw36 x36=>?_
   have i36:=i32.ex (Ex.trans x34 x36);refine⟨λZ=>⟨g,0,_,_,rfl,by omega,by omega,⟨by rw [ej];exact i36.ce j G,by rw [ej];exact i36.fr j⟩,λw42 μ=>?_⟩,λZ=>?_⟩
   ·rw [ej]at μ;have hb:¬KC all[i] all[j]:=λhb=>by rw [PG (A6.2 hb)]at Z;cases Z
    refine⟨by omega,⟨j+1,by omega,by omega,fin (up i36 (λk hk=>by rw [OW (by omega),Pd hk]) μ) ?_⟩,η⟩;rw [mo H G,ap,OW hb];rfl
   ·have hb:KC all[i] all[j]:=A6.1 (by simpa using Z);refine⟨by omega,⟨j+1,by omega,by omega,fin i36 ?_⟩,η⟩;rw [mo H G,ap,Pd hb];rfl
  ·have e:=oE ζ (by omega);have t26:=γ.to (pT _ _) x26;have vb:=γ.ow.block;refine⟨b,0,rfl,vx,t26.ce,rfl,B4.push t26 (pT _ _) ⟨g,_,rfl,by have :=i26.lt;omega,i26.fr,λk hk=>i26.ok k _ (by rw [Pd (by omega),ς])⟩ (λq Z=>?_) rfl (by omega) λv' w54 o1 ν=>⟨b,0,rfl,o1,ν.1,λw58 hw58=>⟨by omega,⟨i+1,v',xs++[_],by omega,by omega,by rw [OG,P0,ς],ν.2 w58 hw58⟩,tN (by omega)⟩⟩⟩;have Z:g=q:=Pu Z;subst Z;refine⟨by omega,by have :=i26.lt;omega,λe=>by have :=(vb g e).2;omega,λk hk e=>by have :=(γ.dj k hk g e).2.1;omega⟩
 have ei:=oE θ (by omega);subst ei;have m11:=zG.of γ ς;have hpl:=Eo hl;refine⟨λc r w'=>∃n:Nat,r=((n+1:Nat):Int)/\n<=14401/\zG w b all.length vx xs (Az all (ap n)) w'/\(c=true->n+uv all (ap n)<=14400)/\(c=false->∀s∈all,∀t∈all,zK s t=ap n s t),λ _ r _=>(14403 - r).toNat,⟨0,rfl,by omega,m11,λ _=>?_,(λh=>by cases h)⟩,λc r w63 hI=>?_⟩
 ·have:uv all (ap 0)<=(Im all).length:=List.countP_le_length;omega
 clear m11 θ hi;obtain⟨n,rfl,hn,β,hc1,hc0⟩:=hI;refine⟨λhc=>?_,λhc=>?_⟩;rotate_left
 ·exact hR w63 vx xs β.kp β.ot (β.congr λi j hi hj=>by rw [mo hi hj,mo hi hj,hc0 hc _ (OK hi) _ (OK hj)]).ap β.vb λj hj g hg=>(β.xb j hj g hg).1
 have hcn:=hc1 hc;have hP63:=h.kp β.kp β.ot;refine⟨b,0,rfl,va,hP63.c0,a,_,cap,hv,λc x w'=>∃i:Nat,x=i/\i<=all.length/\zG w b all.length vx xs (Am all n i 0) w'/\IV all n i 0 c,λ _ x _=>(all.length - x).toNat,⟨0,rfl,Ps _,β.congr λi j _ _=>Jn.symm,(λ _ i j hij=>by omega),(λh=>by cases h)⟩,λc' x w74 hI=>?_⟩;obtain⟨i,rfl,hi,ι,ch⟩:=hI;have hP74:=h.kp ι.kp ι.ot;refine⟨λυ=>?_,λθ=>?_⟩;rotate_left
 ·have ei:=oE θ (by omega);subst ei;refine⟨by omega,⟨n+1,by omega,by omega,ι.congr λi j hi _=>L7 hi,λφ=>?_,λφ s hs t ht=>?_⟩,by show(14403 - (((n+1:Nat):Int)+1)).toNat< (14403 - ((n+1:Nat):Int)).toNat;omega⟩
  ·obtain⟨s,hs,t,ht,h1,h2⟩:=ch.2 φ;have :=Jl hs ht h1 h2;omega
  ·have fix:∀s∈all,∀t∈all,ap (n+1) s t=ap n s t:=λs hs t ht=>by
    obtain⟨i,hi,rfl⟩:=Py.1 hs;obtain⟨j,hj,rfl⟩:=Py.1 ht;exact ch.1 φ i j (.inl hi) hi hj
   rw [ER hcl fix s hs t ht,fix s hs t ht]
 have H:=oL υ;refine⟨b,0,rfl,va,hP74.c0,a,_,cap,hv,λc x w'=>∃j:Nat,x=j/\j<=all.length/\zG w b all.length vx xs (Am all n i j) w'/\IV all n i j c,λ _ x _=>(all.length - x).toNat,⟨0,rfl,Ps _,ι,ch⟩,λc2 x w85 hI=>?_⟩;obtain⟨j,rfl,hj,V,ch⟩:=hI;refine⟨λε=>?_,λζ=>?_⟩;rotate_left
 ·have ej:=oE ζ (by omega);subst ej;exact⟨by omega,⟨i+1,by omega,by omega,V.congr λa c _ hc=>MD hc,ch.row⟩,tN (by omega)⟩
 have G:=oL ε;have η:=@tN all.length j (by omega);have ξ:=h.kp V.kp V.ot;have skip:ap (n+1) all[i] all[j]=ap n all[i] all[j]->a7 ((j:Int)+1)/\(∃j':Nat,(j:Int)+1=j'/\j'<=all.length/\zG w b all.length vx xs (Am all n i j') w85/\IV all n i j' c2)/\((all.length:Int) - ((j:Int)+1)).toNat< ((all.length:Int) - j).toNat:=λe=>
  ⟨by omega,⟨j+1,by omega,by omega,V.congr λa c ha hc=>by
   rw [Ec];split
   ·rename_i e2;obtain⟨rfl,rfl⟩:=e2;rw [K4,mo H G,mo H G,e]
   ·rfl,ch.skip H G e⟩,η⟩
 refine V.ap.get H G (K:=λn=>_) ⟨λZ=>?_,λZ=>?_⟩;rotate_left
 ·have Z:¬Am all n i j i j< 0:=by simpa using Z
  rw [K4,mo H G]at Z;refine skip ?_;cases e:ap n all[i] all[j]with
  | none=>rw [e]at Z;exact absurd (show(-1:Int)< 0 by omega) Z
  | some k=>exact jJ e
 have W:ap n all[i] all[j]=none:=(xu (i0:=i) (j0:=j) H G).1 (.inl (by simpa using Z));have ο:¬(Hf (ap n) all[i] all[j]/\Hf (ap n) all[j] all[i])->∀w2,zG w b all.length vx xs (λa c=>if a=i/\c=j then((n+1:Nat):Int)else Am all n i j a c) w2->a7 ((j:Int)+1)/\(∃j':Nat,(j:Int)+1=j'/\j'<=all.length/\zG w b all.length vx xs (Am all n i j') w2/\IV all n i j' true)/\((all.length:Int) - ((j:Int)+1)).toNat< ((all.length:Int) - j).toNat:=λhh w2 m2=>by
  have e:ap (n+1) all[i] all[j]=some (n+1):=by rw [fF W,OW hh]
  refine⟨by omega,⟨j+1,by omega,by omega,m2.congr λa c ha hc=>?_,(λh=>by cases h),λ _=>⟨_,OK H,_,OK G,W,by rw [e];simp⟩⟩,η⟩;rw [Ec];split
  ·rename_i e2;obtain⟨rfl,rfl⟩:=e2;rw [mo H G,e];rfl
  ·rfl
 refine Ix ξ V.ap (r:=n+1) (F:=ap n) (λk m hk hm=>xu hk hm) H G ⟨λh1=>Ix ξ V.ap (r:=n+1) (F:=ap n) (λk m hk hm=>xu hk hm) G H ⟨λh2=>?_,λh2=>?_⟩,λh1=>?_⟩
 ·exact V.set H G (ο λhh=>by rw [PG hh.2]at h2;cases h2)
 ·refine skip ?_;have h1:Hf (ap n) all[i] all[j]:=by simpa using h1
  have h2:Hf (ap n) all[j] all[i]:=by simpa using h2
  rw [fF W,Pd ⟨h1,h2⟩,W]
 ·exact V.set H G (ο λhh=>by rw [PG hh.1]at h1;cases h1)
structure JC (w:World)(b:Nat)(va:Value)(all:List Tx)(w':World):Prop where
 kp:Kp w w' λg=>g=b
 lt:b< w.heap.size
 fr:∀j,w'.frozen? ⟨b,j,none⟩=false
 c0:w'.cell? ⟨b,0,none⟩=some va
 ot:∀j,j≠0->w'.cell? ⟨b,j,none⟩=w.cell? ⟨b,j,none⟩
 ow:Own w.heap.size w' va all
section
variable {w w':World} {b:Nat} {va:Value} {all:List Tx}
theorem JC.ex (h:JC w b va all w'){w2:World}(x:Ex w' w2):JC w b va all w2:=by
 have G:=h.kp.size;have lt:=h.lt;have c:∀j,w2.cell? ⟨b,j,none⟩=w'.cell? ⟨b,j,none⟩:=λj=>x.cell (a:=⟨b,j,none⟩) (show b< _ by omega)
 exact⟨Kp.trans h.kp (Kp.af x _) λ _ _ h=>h,lt,λj=>by rw [PO x (show b< _ by omega)];exact h.fr j,by rw [c];exact h.c0,λj hj=>by rw [c];exact h.ot j hj,h.ow.ex x⟩
theorem JC.push (h:JC w b va all w'){w1 w2:World}(x:Ex w' w1){s:Tx}{v':Value}(V:Own w.heap.size w2 v' (all++[s]))(G:w1.grownBy w2 va.ownBlock):
  ((∃u,w2.cell? ⟨b,0,none⟩=some u)/\w2.frozen? ⟨b,0,none⟩=false)/\∀H,H=w2.setCell ⟨b,0,none⟩ v'->JC w b v' (all++[s]) H:=by
 have s0:=h.kp.size;have lt:=h.lt;obtain⟨f1,f2⟩:=vB (v':=v') (B:=b) (k:=0) (w:=w') (by omega) (OL _) (by omega) (λg G=>by have :=h.ow.block g G;omega) ⟨_,h.c0⟩ h.fr x G;refine⟨f1,λH J=>?_⟩;obtain⟨W,Z,k3,k4,k5,k6⟩:=f2 H J;exact⟨Kp.trans h.kp k4 λg G e=>e.elim (λe=>by have :=(h.ow.block g e).1;omega) id,lt,k3,W,λj hj=>(Z j hj).trans (h.ot j hj),V.kp k6 λg G e=>by have :=(V.block g G).1;omega⟩
end
theorem ym {w:World}{b3:Nat}{x y z u:Value}(hx:ay x=true)(hy:ay y=true)(hz:ay z=true)(hu:ay u=true)(hc:∀j,j< 4->(∃u,w.cell? ⟨b3,j,none⟩=some u)/\w.frozen? ⟨b3,j,none⟩=false){R:Value->Sg}(hR:∀w',Kp w w' (λg=>g=b3)->R (.agg #[x,y,z,u]) w'):
  zk w b3 0 4 [x,y,z,u] λG=>∃J:Value,∃V:Value,∃W:Value,∃Z:Value,(World.cell? G ⟨b3,0,none⟩=some J/\World.cell? G ⟨b3,1,none⟩=some V/\World.cell? G ⟨b3,2,none⟩=some W/\World.cell? G ⟨b3,3,none⟩=some Z/\True)/\R (.agg #[J,V,W,Z]) G:=by
 refine⟨⟨rfl,by simp [hx,hy,hz,hu],λj hj=>by rw [Pa];exact hc j hj⟩,λw1 α=>?_⟩;obtain⟨k,_,_,H⟩:=aJ (b:=b3) [x,y,z,u] w 0;rw [show World.setCells w b3 0 [x,y,z,u]=w1 from α.symm]at k H;have H:=λj (hj:j< 4)=>H j (λi hi=>by rw [Pa];exact(hc i hi).1) hj
 simp only [Pa]at H;exact⟨x,y,z,u,⟨H 0 (by omega),H 1 (by omega),H 2 (by omega),H 3 (by omega),trivial⟩,hR w1 k⟩
theorem uI {w w1:World}{b3 e:Nat}{x y z u:Value}(hb:b3=w.heap.size)(h:w1=w.alloc (.cells #[x,y,z,u] e)):∀{w':World},Ex w1 w'->∀j,j< 4->(∃u,w'.cell? ⟨b3,j,none⟩=some u)/\w'.frozen? ⟨b3,j,none⟩=false:=λ{w'} k j hj=>by
 have s1:w1.heap.size=w.heap.size+1:=by rw [h,size_alloc]
 rw [k.cell (a:=⟨b3,j,none⟩) (show b3< _ by omega),PO k (show b3< _ by omega),h,hb];refine⟨?_,aG _ _ _ _⟩
 match j,hj with
 | 0,_=>exact⟨_,aa rfl⟩
 | 1,_=>exact⟨_,aa rfl⟩
 | 2,_=>exact⟨_,aa rfl⟩
 | 3,_=>exact⟨_,aa rfl⟩
theorem Ek {B:Nat}{w:World}{v:Value}{l:List Nat}(h:aF tI B w v (l.map iv))(hB:B<=w.heap.size)(hl:l.length<=1000000000){n:Nat}{K:Value->Sg}
  (W:∀v' w',aF tI B w' v' ((l++[n]).map iv)->Below B w w'->K v' w'):
  cc w (.cells #[.int .i64 n] tI) λb1 w1=>iY tI 1 8 w1 v (.slice (some ⟨b1,0,none⟩) 1 1) K:=by
 intro b1 w1 H G;have V:Ex w w1:=G▸Ex.alloc w _;have s1:w1.heap.size=w.heap.size+1:=by rw [G,size_alloc]
 refine⟨B,l.length,1,l.map iv,[iv n],?_,by omega,⟨rfl,rfl,.inr ⟨b1,0,1,rfl,λj u hu=>?_⟩⟩,⟨by unfold maxLen;omega,by omega⟩,λv' w2 Z hg hn=>W v' w2 ?_ ?_⟩
 ·have :=h.ex V;unfold aF at this;rw [O3]at this;exact this
 ·match j,hu with
  | 0,hu=>
   cases hu;rw [G,H];exact aa rfl
 ·unfold aF;rw [PC,OG,O3];exact Z
 ·have J:Kp w1 w2 λg=>v.ownBlock=some g:=Kp.aK hg λ _ h=>h
  exact Qm (Rx V hB) (Kp.below J (by omega) λg α e=>by have :=(h.block g e).1;omega)
def Nz (all:List Tx)(j:Nat)(v:Value)(w:World):Prop:=∀h:j< all.length,∃l,Ns w v l/\ML all l (·∈B0 all[j])/\l.length<=12960000
def NK (all:List Tx)(j:Nat)(v:Value)(w:World):Prop:=∀h:j< all.length,∃l,Ns w v l/\ML all l (nP all[j])/\l.length<=120
theorem yR (all:List Tx):MO (Nz all):=λj v w w' S h k G hj=>by
 obtain⟨l,H,h2⟩:=h hj;exact⟨l,H.kp k G,h2⟩
theorem Er (all:List Tx):MO (NK all):=λj v w w' S h k G hj=>by
 obtain⟨l,H,h2⟩:=h hj;exact⟨l,H.kp k G,h2⟩
theorem Jq {all l:List Tx}{ns:List Nat}(h:ns.map (λn=>all[n]?)=l.map some):ML all ns (·∈l):=by
 constructor
 ·intro n J;have G:all[n]?∈l.map some:=h▸Pp.2 ⟨n,J,rfl⟩;obtain⟨t,h2,H⟩:=Pp.1 G;obtain⟨h4,h5⟩:=Pw.1 H.symm;exact⟨h4,h5▸h2⟩
 ·intro t V;have G:some t∈ns.map (λn=>all[n]?):=h▸Pp.2 ⟨t,V,rfl⟩;obtain⟨n,h2,H⟩:=Pp.1 G;obtain⟨h4,h5⟩:=Pw.1 H;exact⟨n,h2,h4,h5⟩
theorem KF {all:List Tx}{ns:List Nat}{i:Nat}(hi:i< all.length)(G:∀n∈ns,∃h:n< all.length,nP all[i] all[n])(h2:i∈ns)(H:∀n∈ns,∀m∈B0 (all.getD n []),∃k∈ns,all[k]?=some m):ML all ns (nP all[i]):=by
 refine⟨G,λt J=>?_⟩
 induction J with
 | refl=>exact⟨i,h2,hi,rfl⟩
 | step _ hu V=>
  obtain⟨n,h4,h5,rfl⟩:=V;obtain⟨k,W,Z⟩:=H n h4 _ (by rw [P3,OC h5];exact hu);obtain⟨h8,h9⟩:=Pw.1 Z;exact⟨k,W,h8,h9⟩
theorem D5 {all:List Tx}{ns:List Nat}(G:ns.Nodup)(h:∀n∈ns,n< all.length):ns.length<=all.length:=by
 have :=G.length_le_of_subset (l₂:=List.range all.length) λn H=>P7.2 (h n H)
 rwa [QM]at this
structure Ot (B:Nat)(w:World)(va vx:Value)(all:List Tx):Prop where
 a:Strs w va all
 x:∀w2 c,Kp w w2 (λg=>g< B)->w2.cell? ⟨c,3,none⟩=some vx->∃xs,IX w2 c all.length vx xs (Az all zK)
end Go.Proofs.YtdecokaadekjnaaGreat
