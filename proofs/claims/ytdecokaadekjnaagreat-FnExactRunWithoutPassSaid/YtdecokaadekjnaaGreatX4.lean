/- Part 4 of a proof of what the last text states; no condition. -/
import Derived.Test.YtdecokaadekjnaaGreatX3
namespace Go.Proofs.YtdecokaadekjnaaGreat
open Go Go.RowKit
def nA (l:Lv)(ls:List UInt8)(ρ:Rh)(tk:Tk)(π:List Nat):Tx:=wrap ls []++joinS 38 (aX (thS l (asg π ls ρ) (addK ls tk)))
theorem Ba (c:UInt8)(l:List UInt8):wrap (c::l) []=[35]++[c]++[46]++wrap l []:=rfl
theorem Dm {n:Nat}(ht:Fs n){D:Nat->Prop}{w:World}{b30 b3 b5 b16 b18 nn r:Nat}{vo vl:Value}{x:UInt32}{best:Tx}{o π:List Nat}{l:Lv}{ρ:Rh}{tk:Tk}{bad:Bool}{B:Nat}(hs:wu w b30 b3 b5 b16 b18 nn vo vl x best)
  (hb:∀b,(b=b30\/b=b3\/b=b5\/b=b16\/b=b18)->¬(b=nn\/b=r)) (ho:aI 3 B w vo (π.map iv)) (hob:∀g,vo.ownBlock=some g->¬(g=nn\/g=r)) (hp:π.Perm o) (hN:Nm w nn r ρ tk bad) (hx:qu x tk)
  (hn:l.sz<=n) (hsh:l.sh true=true) (hsm:l.sm=true) (huq:tr o l) (h:fS D w vl o (af D w l)) (hD:∀g,D g->¬(g=nn\/g=r)) (hne:l.isNil=false) (htot:o.length+l.tot<=4294967296) {R:World->Prop}
  (hR:∀w' ρ' best',Kp w w' (λg=>g=nn\/g=r\/g=b16)->wu w' b30 b3 b5 b16 b18 nn vo vl x best'->Nm w' nn r ρ' tk (bad||(fZ o.length tk||thBad l (addK (lets o.length tk) tk)))->(∀z,z∉o->z∉l.bvs->ρ' z=ρ z)->
   best'=(if best=[]\/nA l (lets o.length tk) ρ tk π< best then nA l (lets o.length tk) ρ tk π else best)->R w'):
  Calls Tryz.prog 251 #[ptr b30,ptr b3,ptr b5,ptr b16,ptr b18] w (an [] R):=by
 refine ka _ _ _ _ _ w R ?_;have ο:=hp.length_eq;obtain⟨ao,capo,hvo⟩:=(ho.Bo (D:=λ _=>True) λ _ _=>trivial).slice;rw [Ju]at hvo;have hge:=huq.ge;refine⟨b30,0,rfl,vo,hs.c30,ao,_,capo,hvo,λhd y w'=>∃(j:Nat) (H:Rh) (G:Tk) (I:Bool),y=j/\j<=π.length/\Kn nn r w w'/\Nm w' nn r H G I/\hd.length=3* j/\asg (π.drop j) (lets (π.length - j) G) H=asg π (lets o.length tk) ρ/\addK (lets (π.length - j) G) G=addK (lets o.length tk) tk/\
   (I||fZ (π.length - j) G)=(bad||fZ o.length tk)/\hd++wrap (lets (π.length - j) G) []=wrap (lets o.length tk) []/\∀z,z∉o->H z=ρ z,λ _ y _=>(π.length - y).toNat,⟨0,ρ,tk,bad,rfl,JS _,Kn.ex (Ex.refl w),hN,rfl,by rw [KG,Nat.sub_zero,ο],by rw [Nat.sub_zero,ο],by rw [Nat.sub_zero,ο],by rw [Nat.sub_zero,ο];rfl,λ _ _=>rfl⟩,λhd y ς hI=>?_⟩
 obtain⟨j,H,G,I,rfl,hj,ι,n16,hhd,e1,e2,e3,e4,e5⟩:=hI;have s16:wu ς b30 b3 b5 b16 b18 nn vo vl x best:=hs.kp ι hb;refine⟨λhlt=>?_,λhge2=>?_⟩
 ·have ζ:j< π.length:=by simp only [I0]at hlt;omega
  obtain⟨g,cap,hvo2⟩:∃g cap,vo= .slice (some ⟨g,0,none⟩) π.length cap:=by
   rcases ho.2 with⟨_,h0⟩ | ⟨g,cap,cur,hv,_⟩
   ·rw [Ju]at h0;omega
   ·rw [Ju]at hv;exact⟨g,cap,hv⟩
  have o16:=ho.kp ι λg hg=>hob g hg
  have hx26:26<=π[j]:=hge _ (JF _ (hp.subset (Jd ζ)));have α:ς.cell? ⟨g,0+Int.toNat (j:Int)* 1,none⟩=some (iv π[j]):=by
   rw [hvo2]at o16;rw [Ja,JE];exact(o16.at ζ).1
  refine⟨g,0,_,cap,hvo2,by omega,by omega,π[j],α,b3,0,rfl,ptr nn,s16.c3,B2 n16 hx26 λy' w26 _ k26 n26=>⟨b3,0,rfl,ptr nn,(s16.kp k26 hb).c3,js n26 ⟨by simp,by simp,?_,by unfold aj;omega,⟨j+1,_,_,_,by omega,by omega,Kn.trans ι k26,n26,?_,?_,?_,?_,?_,λz hz=>?_⟩,by show((π.length:Int) - ((j:Int)+1)).toNat< ((π.length:Int) - j).toNat;omega⟩⟩⟩
  all_goals have ed:π.drop j=π[j]::π.drop (j+1):=JP ζ
  all_goals have el:π.length - j=(π.length - (j+1))+1:=by omega
  all_goals rw [el]at e1 e2 e3 e4
  ·simp;omega
  ·simp;omega
  ·rw [ed]at e1;exact e1
  ·exact e2
  ·rw [<-e3];simp only [fZ,Kz]
  ·rw [<-e4,lets,Ba];simp [aE]
  ·rw [<-e5 z hz];refine Jn λe=>hz ?_
   rw [e];exact hp.subset (Jd ζ)
 ·have ζ:j=π.length:=by simp only [I1]at hge2;omega
  subst ζ;rw [Nat.sub_self]at e1 e2 e3 e4;rw [KH]at e1;simp only [lets,asg,addK,fZ,wrap,Lb,JD]at e1 e2 e3 e4;intro b32 w33 hb32 hw33;have x33:Ex ς w33:=hw33▸Ex.alloc ς _;have s33:=s16.ex x33;have n33:=n16.ex x33;have k33:Kn nn r w w33:=Kn.trans ι (Kn.ex x33);obtain⟨bl,vo2,vt,ts,rfl,h2,h3,h4,h5,h6,h7,h8⟩:=h;obtain⟨at_,capt,hvt⟩:=h7.slice;have hlen:=h8.len;have hel:=Lv.cK l;have hlt:=bS l;have hbl:=hD bl h2;have sz33:=k33.size;have hlb:∀b,(b=b30\/b=b3\/b=b5\/b=b16\/b=b18)->b< w.heap.size:=hs.l;refine⟨b5,0,rfl,ptr bl,s33.c5,bl,0,rfl,vt,by rw [IX (w:=w) (k33.block bl h3 hbl)];exact h5,at_,_,capt,hvt,λtx y w'=>∃(j:Nat) (V:Rh),y=j/\j<=ts.length/\Kn nn r w w'/\Nm w' nn r V G (I||thBad (l.take j) G)/\(∀z,z∉(l.take j).bvs->V z=H z)/\Own w.heap.size w' tx (thS (l.take j) H G),
   λ _ y _=>(ts.length - y).toNat,⟨0,H,rfl,JS _,k33,by simpa [Lv.take,thBad]using n33,λ _ _=>rfl,Own.none (by have :=ι.size;omega) hb32 hw33⟩,λtx y w47 hI=>?_⟩
  obtain⟨j,V,rfl,hj,κ,n47,γ,δ⟩:=hI;have hnl:=hN.lt;have hnr:=hN.lr;have J:∀g',tx.ownBlock=some g'->w.heap.size<=g':=λg' h'=>(δ.block g' h').1
  refine⟨λhlt2=>?_,λhge3=>?_⟩
  ·have υ:j< ts.length:=by simp only [I0]at hlt2;omega
   have hje:j< l.bk.length:=by omega
   have s47:wu w47 b30 b3 b5 b16 b18 nn vo (ptr bl) x best:=hs.kp κ hb;obtain⟨bu,ou,β,hvu',hcu⟩:∃bu ou β,vt= .slice (some ⟨bu,ou,none⟩) ts.length β/\w47.cell? ⟨bu,ou+j,none⟩=some ts[j]:=by
    rcases h7 with⟨_,h0⟩ | ⟨bt,ot,capt',e,hbD,hb',α⟩
    ·rw [h0]at υ;simp at υ
    ·exact⟨bt,ot,capt',e,by rw [IX (w:=w) (κ.block bt hb' (hD bt hbD))];exact α j _ (IY υ)⟩
   obtain⟨e,hf1,η,hf3⟩:=aK.single h8.bk (IY υ);have hf4:l.bk[j]=e:=by rw [IY hje]at hf1;exact JO hf1
   have ε:=Lv.take_succ l j hje;rw [hf4]at ε;have hsz2:=Lv.en l e η;have htot2:=Lv.fU l e η;have hfe:thS e V G=thS e H G:=sA e V H G λz hz=>γ z λhb=>huq.nf z (Lv.lB l j z hb) (Lv.pP l e η hz)
   refine⟨bu,ou,_,β,hvu',by omega,by omega,ts[j],by rw [Ja,JE];exact hcu,b3,0,rfl,ptr nn,s47.c3,?_⟩;refine ht (by omega) (Lv.jz hsh e η) (Lv.rK hsm e η) (huq.bk η) (hf3.kp κ hD) hD n47 (by omega) λt w57 ρ3 hthS k57 n57 hρ3 b58 w59 hb58 hw59=>?_
   have φ:Ex w57 w59:=hw59▸Ex.alloc w57 _;have k1:Kn nn r w w57:=Kn.trans κ k57;have ho59:Own w.heap.size w59 tx (thS (l.take j) H G):=(δ.kp k57 λg' h'=>(by have :=J g' h';omega)).ex φ;have hl3:(thS (l.take j) H G).length<=ts.length:=by
    rw [bw];have :=Lv.gz l j;omega
   refine Own.push ho59 (by have :=k1.size;have :=φ.size;omega) (Strs.one hb58 hw59) (by simp only [IW,Jh];omega) λv65 w66 _ ho66 hg66 _=>⟨by unfold aj;omega,⟨j+1,ρ3,by omega,by omega,?_,?_,?_,?_⟩,by show((ts.length:Int) - ((j:Int)+1)).toNat< ((ts.length:Int) - j).toNat;omega⟩
   ·exact Kp.new (Kn.trans k1 (Kn.ex φ)) hg66 J
   ·have e1:(I||thBad (l.take (j+1)) G)=(I||thBad (l.take j) G||thBad e G):=by rw [ε,cR,Kz]
    rw [e1];refine(n57.ex φ).kp (Kp.aR (S:=λg=>tx.ownBlock=some g) hg66 λ _ h=>h) (λh'=>by have :=J _ h';omega) λh'=>by have :=J _ h';omega
   ·intro z hz;rw [ε,Lv.dh,Jf,Mp]at hz;rw [hρ3 z hz.2,γ z hz.1]
   ·rw [ε,gd,<-hfe,hthS];exact ho66
  ·have hjt:j=l.bk.length:=by simp only [I1]at hge3;omega
   rw [hjt,Lv.df]at n47 δ γ;have hsum:=fV l H G;have χ:=bw l H G;have hne':thS l H G≠[]:=λe=>by
    rw [e]at χ;rw [Lv.du]at hne;simp only [Jh]at χ;simp [<-χ]at hne
   have eT:hd++joinS 38 (aX (thS l H G))=nA l (lets o.length tk) ρ tk π:=by
    unfold nA;rw [<-e4,<-e1,<-e2]
   have hjl2:=gG 38 (aX (thS l H G));rw [im (aM _)]at hjl2;refine CG δ hne' (by rw [χ];omega) (by omega) λθ k68=>⟨by omega,?_⟩
   have μ:Kn nn r w θ:=Kp.trans κ k68 λg' hg' h'=>by have :=J g' h';omega
   have W:wu θ b30 b3 b5 b16 b18 nn vo (ptr bl) x best:=hs.kp μ hb;have n68:Nm θ nn r V G (I||thBad l G):=n47.kp k68 (λh'=>by have :=J _ h';omega) λh'=>by have :=J _ h';omega
   have kq:∀{w1:World},Kn nn r w w1->Kp w w1 (λg=>g=nn\/g=r\/g=b16):=λk=>Kp.mono (λg hg=>hg.elim .inl λh=> .inr (.inl h)) k
   rw [eT];have fin:∀w1 best',Kp w w1 (λg=>g=nn\/g=r\/g=b16)->wu w1 b30 b3 b5 b16 b18 nn vo (ptr bl) x best'->Nm w1 nn r V G (I||thBad l G)->best'=(if best=[]\/nA l (lets o.length tk) ρ tk π< best then nA l (lets o.length tk) ρ tk π else best)->
     ∃(b79 o80:Nat),ptr b3=Value.pointer (some ⟨b79,o80,none⟩)/\∃v81:Value,World.cell? w1 ⟨b79,o80,none⟩=some v81/\∃(b82 o83:Nat),ptr b18=Value.pointer (some ⟨b82,o83,none⟩)/\∃m84:UInt32,World.cell? w1 ⟨b82,o83,none⟩=some (Value.int IntKind.u32 (UInt32.toNat m84))/\∃(ψ ω:Nat),v81=Value.pointer (some ⟨ψ,ω,none⟩)/\((∃u87:Value,World.cell? w1 ⟨ψ,(ω+1),none⟩=some u87)/\World.frozen? w1 ⟨ψ,(ω+1),none⟩=false)/\∀w88:World,w88=World.setCell w1 ⟨ψ,(ω+1),none⟩ (Value.int IntKind.u32 (UInt32.toNat m84))->R w88:=by
    intro w1 best' k1 s1 n1 hbest;obtain⟨z,hz,_⟩:=n1.c1;refine⟨b3,0,rfl,ptr nn,s1.c3,b18,0,rfl,x,s1.c18,nn,0,rfl,⟨⟨_,hz⟩,n1.f 1⟩,λw88 ν=>hR w88 V best' ?_ ?_ ?_ (λz hz hz'=>?_) hbest⟩
    ·exact Kp.trans k1 (ν▸Kr.set _ _ _) λg _ e=> .inl e
    ·exact s1.kp (ν▸Kr.set w1 1 _) λb hb' e=>hb b hb' (.inl e)
    ·refine n1.set (tk':=tk) ν (.inl ⟨rfl,?_,x,rfl,hx⟩);rw [<-Kz,<-e3,<-e2]
    ·rw [γ z hz',e5 z hz]
   have st:∀w1,w1=θ.setCell ⟨b16,0,none⟩ (.string (ab (nA l (lets o.length tk) ρ tk π)))->Kp w w1 (λg=>g=nn\/g=r\/g=b16)/\wu w1 b30 b3 b5 b16 b18 nn vo (ptr bl) x (nA l (lets o.length tk) ρ tk π)/\Nm w1 nn r V G (I||thBad l G):=λw1 hw1=>by
    have kb:Kr b16 θ w1:=hw1▸Kr.set _ _ _;have h16:=hb b16 (by simp);exact⟨Kp.trans (kq μ) kb λg _ e=> .inr (.inr e),W.CQ hw1,n68.kp kb (λe=>h16 (.inl e.symm)) λe=>h16 (.inr e.symm)⟩
   refine⟨b16,0,rfl,best,W.c16,λξ=>?_,λξ=>?_⟩
   ·simp only [I1]at ξ;refine⟨b16,0,rfl,best,W.c16,λZ=>⟨b16,0,rfl,⟨⟨_,W.c16⟩,W.f16⟩,λw78 hw78=>?_⟩,λZ=>?_⟩
    ·rw [Mg,I0]at Z;obtain⟨k1,k2,k3⟩:=st w78 hw78;exact fin w78 _ k1 k2 k3 (by rw [JB (.inr Z)])
    ·rw [Mg,I1]at Z;exact fin θ best (kq μ) W n68 (by rw [Jn (λh=>h.elim ξ Z)])
   ·simp only [I0]at ξ;refine⟨b16,0,rfl,⟨⟨_,W.c16⟩,W.f16⟩,λw102 hw102=>?_⟩;obtain⟨k1,k2,k3⟩:=st w102 hw102;exact fin w102 _ k1 k2 k3 (by rw [JB (.inl ξ)])
theorem y5 (a:Tx):bG [a]=a:=gu (by simp) λs z=>by simp at z;subst z;simp [jk]
theorem xT {l:List Tx}(h:l≠[])(a:Tx):bG (l++[a])=if a< bG l then a else bG l:=by
 obtain⟨I,H⟩:=cE h;split
 ·rename_i G;refine gu (by simp) λs z=>?_
  rcases Jf.1 z with z | z
  ·refine gn _ _ _ ?_ (H s z);simp only [jk,I0];exact List.le_of_lt G
  ·simp at z;subst z;simp [jk]
 ·rename_i G;refine gu (JF _ I) λs z=>?_
  rcases Jf.1 z with z | z
  ·exact H s z
  ·simp at z;subst z;simp only [jk,I0];exact List.not_lt.1 G
theorem EA {l:Lv}{o π:List Nat}(J:π.Perm o)(H:tr o l){ls:List UInt8}(I:π.length=ls.length){ρ ρ':Rh}(h:∀z,z∉o->z∉l.bvs->ρ' z=ρ z)(tk:Tk):nA l ls ρ' tk π=nA l ls ρ tk π:=by
 unfold nA;rw [sA l (asg π ls ρ') (asg π ls ρ) (addK ls tk) λz V=>?_];by_cases G:z∈π
 ·exact yM π ls ρ' ρ z G I
 ·rw [bL _ _ _ _ G,bL _ _ _ _ G];exact h z (λW=>G (J.symm.subset W)) λhb=>H.nf z hb V
structure OI (w w':World)(b30 b3 b5 b16 b18 nn r:Nat)(vo vl:Value)(x:UInt32)(o:List Nat)(l:Lv)(ρ:Rh)(tk:Tk)(bad:Bool)(acc:List (List Nat)):Prop where
 ex:∃(ρ':Rh) (best:Tx),wu w' b30 b3 b5 b16 b18 nn vo vl x best/\Nm w' nn r ρ' tk (bad||(!acc.isEmpty&&(fZ o.length tk||thBad l (addK (lets o.length tk) tk))))/\(∀z,z∉o->z∉l.bvs->ρ' z=ρ z)/\
  ((acc=[]/\best=[])\/(acc≠[]/\best=bG (acc.map (nA l (lets o.length tk) ρ tk))))
 kn:Kn nn r w w'
theorem tT {n:Nat}(ht:Fs n):GD n:=by
 intro D w v o l nn r ρ tk bad R hn hsh hsm huq h hD hN htot hR;refine mJ (ptr nn) v w R ?_;have hv1:=h.one;refine⟨rfl,λb3 w4 hb3 hw4=>⟨hv1,λb5 w6 hb5 hw6=>?_⟩⟩;have x4:Ex w w4:=hw4▸Ex.alloc w _;have x6':Ex w4 w6:=hw6▸Ex.alloc w4 _;have x6:Ex w w6:=Ex.trans x4 x6';have s4:w4.heap.size=w.heap.size+1:=by rw [hw4,size_alloc]
 have s6:w6.heap.size=w4.heap.size+1:=by rw [hw6,size_alloc]
 have c3:w6.cell? ⟨b3,0,none⟩=some (ptr nn):=by rw [x6'.cell (show b3< _ by omega),hw4,hb3];exact aa rfl
 have c5:w6.cell? ⟨b5,0,none⟩=some v:=by rw [hw6,hb5];exact aa rfl
 have hnl:=hN.lt;have hnr:=hN.lr;refine⟨v,c5,lJ (fS.ex h x6) ⟨λhe=>?_,λhe=>?_⟩⟩
 ·have e:aP o (thS l) ρ tk=[48]:=by
   unfold aP;rw [JB];cases l<;>first | rfl | cases he
  rw [<-e];refine hR w6 ρ (Kn.ex x6) ?_ λ _ _ _=>rfl
  rw [he];simpa [fq]using hN.ex x6
 ·refine⟨λw'=>Ex w6 w',λw11 hw11=>?_⟩;have ξ:Ex w6 w11:=hw11▸Ex.drew w6;have n11:=hN.ex (Ex.trans x6 ξ);obtain⟨x,hx,hxt⟩:=(hN.ex x6).c1;have s11:=ξ.size;have rest:∀(b16 b18:Nat) (G:World),Ex w6 G->G.cell? ⟨b16,0,none⟩=some (.string (ab []))->G.cell? ⟨b18,0,none⟩=some (.int .u32 x.toNat)->G.frozen? ⟨b16,0,none⟩=false->b16≠b18->w6.heap.size<=b16->w6.heap.size<=b18->b16< G.heap.size->b18< G.heap.size->
    ∃v24:Value,World.cell? G ⟨b5,0,none⟩=some v24/\∃(b25 o26:Nat),v24=Value.pointer (some ⟨b25,o26,none⟩)/\∃v27:Value,World.cell? G ⟨b25,(o26+0),none⟩=some v27/\Calls Tryz.prog 180 #[v27] G (an [.v] fun(v28:Value) (ι:World)=>∀(b30:Nat) (α:World),b30=Array.size (World.heap ι)->α=World.alloc ι (Obj.cells #[(Value.slice none 0 0)] 36)->oneV v28=true/\((∃u32:Value,World.cell? α ⟨b30,0,none⟩=some u32)/\World.frozen? α ⟨b30,0,none⟩=false)/\
     ∀β:World,β=World.setCell α ⟨b30,0,none⟩ v28->∃v34:Value,World.cell? β ⟨b30,0,none⟩=some v34/\Calls Tryz.prog 250 #[v34,(Value.int IntKind.i64 0),(Value.func (Fn.func 251) #[] #[(Value.pointer (some ⟨b30,0,none⟩)),(Value.pointer (some ⟨b3,0,none⟩)),(Value.pointer (some ⟨b5,0,none⟩)),(Value.pointer (some ⟨b16,0,none⟩)),(Value.pointer (some ⟨b18,0,none⟩))])] β (an [] fun(φ:World)=>∃s36:ay,World.cell? φ ⟨b16,0,none⟩=some (Value.string (ab s36))/\R (s36) φ)):=by
   intro b16 b18 G ε c16 c18 f16 hne h16 h18 l16 l18;have h':=h;obtain⟨bl,vo,vt,ts,rfl,h2,h3,h4,h5,h6,h7,h8⟩:=h';have μ:Ex w G:=Ex.trans x6 ε;have c5':G.cell? ⟨b5,0,none⟩=some (ptr bl):=by rw [ε.cell (show b5< _ by omega)];exact c5
   have c3':G.cell? ⟨b3,0,none⟩=some (ptr nn):=by rw [ε.cell (show b3< _ by omega)];exact c3
   refine⟨ptr bl,c5',bl,0,rfl,vo,by rw [μ.cell (show bl< _ from h3)];exact h4,?_⟩;refine vQ (h6.ex μ) (by omega) λv28 ι x29 o29 b30 α hb30 ν=>?_
   have x31:Ex ι α:=ν▸Ex.alloc ι _;have s31:α.heap.size=ι.heap.size+1:=by rw [ν,size_alloc]
   have s29:=x29.size;have s23:=ε.size;have c30:α.cell? ⟨b30,0,none⟩=some (.slice none 0 0):=by rw [ν,hb30];exact aa rfl
   have f30:α.frozen? ⟨b30,0,none⟩=false:=by rw [ν,hb30];exact aN _ _ _ _
   refine⟨o29.j9,⟨⟨_,c30⟩,f30⟩,λβ hw33=>?_⟩;have k33:Kr b30 α β:=hw33▸Kr.set _ _ _;have ζ:Ex G β:=Ex.below (Ex.trans x29 x31) (Kp.below k33 (Ex.trans x29 x31).size λg hg e=>by omega);have χ:∀g,v28.ownBlock=some g->G.heap.size<=g/\g< ι.heap.size:=o29.block;have o33:aI 3 G.heap.size β v28 (o.map iv):=(o29.kp (Kp.ah x31 λ _=>False) λ _ _ h=>h).kp k33 λg hg e=>by have :=χ g hg;omega
   have c30':β.cell? ⟨b30,0,none⟩=some v28:=by rw [hw33];exact Jk _ _ _ c30
   have ds:wu β b30 b3 b5 b16 b18 nn v28 (ptr bl) x []:=by
    have s33:=ζ.size;have s33':=k33.size;refine⟨λb hb=>?_,c30',?_,?_,?_,?_,?_,by omega,by omega,by omega,hne⟩
    ·rcases hb with rfl | rfl | rfl | rfl | rfl<;>omega
    ·rw [ζ.cell (show b3< _ by omega)];exact c3'
    ·rw [ζ.cell (show b5< _ by omega)];exact c5'
    ·rw [ζ.cell (show b16< _ by omega)];exact c16
    ·rw [ζ.cell (show b18< _ by omega)];exact c18
    ·rw [Kx ζ l16];exact f16
   have ψ:∀b,(b=b30\/b=b3\/b=b5\/b=b16\/b=b18)->w.heap.size<=b/\¬v28.ownBlock=some b:=λb hb=>by
    refine⟨by rcases hb with rfl | rfl | rfl | rfl | rfl<;>omega,λe=>?_⟩;have :=χ b e;rcases hb with rfl | rfl | rfl | rfl | rfl<;>omega
   have hlev:∀{w1:World},Kn nn r w w1->fS D w1 (ptr bl) o (af D w1 l):=λk=>h.kp k hD λl h=>h.kp k hD
   have ο:∀g,v28.ownBlock=some g->¬(g=nn\/g=r):=λg hg=>by have :=χ g hg;omega
   refine⟨v28,c30',?_⟩;refine xI (o:=o) (ca:=[ptr b30,ptr b3,ptr b5,ptr b16,ptr b18]) (Inv:=λacc w'=>OI w w' b30 b3 b5 b16 b18 nn r v28 (ptr bl) x o l ρ tk bad acc) (by kernel_rfl) ?_ ?_ (by omega) o.length 0 o [] β (by omega) ⟨⟨ρ,[],ds,?_,λ _ _ _=>rfl,.inl ⟨rfl,rfl⟩⟩,Kn.ex (Ex.trans μ ζ)⟩ o33 (J7 _) λφ acc I35 o35 hacc=>?_
   ·intro acc π w1 hI how hp R' hR';obtain⟨⟨ω,best,d1,n1,e1,e2⟩,kn⟩:=hI;have hpl:=hp.length_eq;refine Dm ht d1 (λb hb=>by have :=(ψ b hb).1;omega) how ο hp n1 hxt hn hsh hsm huq (hlev kn) hD he htot λw2 ρ2 best2 k2 d2 n2 e3 e4=>hR' w2 ⟨⟨ρ2,best2,d2,?_,λz hz hz'=>by rw [e3 z hz hz',e1 z hz hz'],?_⟩,?_⟩ ?_
    ·have:(bad||(!acc.isEmpty&&(fZ o.length tk||thBad l (addK (lets o.length tk) tk)))||(fZ o.length tk||thBad l (addK (lets o.length tk) tk)))=(bad||(!(acc++[π]).isEmpty&&(fZ o.length tk||thBad l (addK (lets o.length tk) tk)))):=by
      cases acc<;>simp [Kz]
     rw [<-this];exact n2
    ·right;refine⟨by simp,?_⟩;have eT:=EA hp huq (ls:=lets o.length tk) (by rw [fE];exact hpl) e1 tk;rw [eT]at e4;rw [JY];simp only [JA,KV];rcases e2 with⟨rfl,rfl⟩ | ⟨ha,rfl⟩
     ·rw [JB (.inl rfl)]at e4;rw [e4,KV,JW,y5]
     ·rw [xT (by simpa using ha),e4];have hne2:bG (acc.map (nA l (lets o.length tk) ρ tk))≠[]:=by
       obtain⟨h1,_⟩:=cE (l:=acc.map (nA l (lets o.length tk) ρ tk)) (by simpa using ha);obtain⟨σ,_,e⟩:=JL.1 h1;rw [<-e];unfold nA;intro e5;refine pL (pV ?_) (λt ht=>lE l hsm _ _ t ((aM _).subset ht)) (List.append_eq_nil_iff.1 e5).2;intro e6;have :=bw l (asg σ (lets o.length tk) ρ) (addK (lets o.length tk) tk);rw [e6]at this;rw [Lv.du]at he;simp only [Jh]at this;simp [<-this]at he
      simp only [hne2,Mq]
    ·exact Kp.trans kn k2 λg hg e=>by have :=(ψ b16 (by simp)).1;omega
    ·exact how.kp k2 λg hg e=>by
      rcases e with e | e | e
      ·exact ο g hg (.inl e)
      ·exact ο g hg (.inr e)
      ·exact(ψ b16 (by simp)).2 (e▸hg)
   ·intro acc w1 w2 hI k;obtain⟨⟨ω,best,d1,n1,e1,e2⟩,kn⟩:=hI;refine⟨⟨ω,best,d1.kp k λb hb=>(ψ b hb).2,n1.kp k (λe=>ο nn e (.inl rfl)) λe=>ο r e (.inr rfl),e1,e2⟩,Kp.trans kn k λg hg e=>by have :=χ g e;omega⟩
   ·have :=hN.ex (Ex.trans μ ζ);simpa using this
   ·obtain⟨⟨ω,best,d1,n1,e1,e2⟩,kn⟩:=I35;rw [JW]at n1 e2;have hmem:∀σ,σ∈acc↔σ.Perm o:=λσ=>by
     rw [hacc];simp only [KG,List.take_zero,JW];exact⟨fun⟨τ,h,e⟩=>e▸h,λh=>⟨σ,h,rfl⟩⟩
    have ς:acc≠[]:=λe=>by have :=(hmem o).2 (J7 _);rw [e]at this;cases this
    have eb:best=aP o (thS l) ρ tk:=by
     rcases e2 with⟨h0,_⟩ | ⟨_,rfl⟩
     ·exact absurd h0 ς
     ·unfold aP;have hemp:¬(thS l ρ tk).isEmpty=true:=λe=>by
       rw [List.isEmpty_iff_length_eq_zero,bw]at e;rw [Lv.du]at he;simp [e]at he
      rw [Jn hemp];show _=wrap _ (bG _);rw [xt,<-rz _ (λe=>oH o (Lu.1 e)),KL];refine nV λs=>?_
      simp only [JL,hmem,cT];rfl
    rw [<-eb]at hR;refine⟨best,d1.c16,hR φ ω kn ?_ e1⟩;have:(bad||(!acc.isEmpty&&(fZ o.length tk||thBad l (addK (lets o.length tk) tk))))=(bad||fq o.length l.isNil (thBad l) tk):=by
     have:acc.isEmpty=false:=by cases acc<;>first | exact absurd rfl ς | rfl
     rw [this,he];rfl
    rw [<-this];exact n1
  refine⟨ξ,ptr nn,λw' x'=>by rw [x'.cell (show b3< _ by omega)];exact c3,nn,0,rfl,x,λw' x'=>by rw [x'.cell (show nn< _ by omega)];exact hx,λb16 γ η V=>?_,λb18 γ θ V=>?_⟩
  ·have κ:Ex w6 γ:=V▸Ex.trans ξ (Ex.alloc _ _);refine⟨κ,λb18 J θ W=>?_⟩;have δ:Ex γ J:=W▸Ex.alloc _ _;have s17:γ.heap.size=w11.heap.size+1:=by rw [V,size_alloc]
   have s19:J.heap.size=γ.heap.size+1:=by rw [W,size_alloc]
   have c16:J.cell? ⟨b16,0,none⟩=some (.string ⟨#[]⟩):=by rw [δ.cell (show b16< _ by omega),V,η];exact aa rfl
   have f16:J.frozen? ⟨b16,0,none⟩=false:=by rw [Kx δ (show b16< _ by omega),V,η];exact aN _ _ _ _
   have c18:J.cell? ⟨b18,0,none⟩=some (.int .u32 0):=by rw [W,θ];exact aa rfl
   have f18:J.frozen? ⟨b18,0,none⟩=false:=by rw [W,θ];exact aN _ _ _ _
   refine⟨Ex.trans κ δ,⟨⟨_,c16⟩,f16⟩,λZ H=>?_⟩;have υ:Ex w6 Z:=H▸Ex.own (Ex.trans κ δ) (by omega) _;have s21:Z.heap.size=J.heap.size:=by rw [H,JI]
   have d16:Z.cell? ⟨b16,0,none⟩=some (.string (ab [])):=by rw [H];exact Jk _ _ _ c16
   have d18:Z.cell? ⟨b18,0,none⟩=some (.int .u32 0):=by rw [H,I4 _ _ _ _ (λe=>by injection e with e1 e2;omega)];exact c18
   refine⟨υ,⟨⟨_,d18⟩,by rw [H,Jl];exact f18⟩,λG I=>?_⟩;have ε:Ex w6 G:=I▸Ex.own υ (by omega) _;have s23:G.heap.size=Z.heap.size:=by rw [I,JI]
   refine rest b16 b18 G ε ?_ ?_ ?_ (by omega) (by omega) (by omega) (by omega) (by omega)
   ·rw [I,I4 _ _ _ _ (λe=>by injection e with e1 e2;omega)];exact d16
   ·rw [I];exact Jk _ _ _ d18
   ·rw [I,Jl,H,Jl];exact f16
  ·have κ:Ex w6 γ:=V▸Ex.trans ξ (Ex.alloc _ _);refine⟨κ,λb16 J η W=>?_⟩;have δ:Ex γ J:=W▸Ex.alloc _ _;have s17:γ.heap.size=w11.heap.size+1:=by rw [V,size_alloc]
   have s19:J.heap.size=γ.heap.size+1:=by rw [W,size_alloc]
   have c18:J.cell? ⟨b18,0,none⟩=some (.int .u32 0):=by rw [δ.cell (show b18< _ by omega),V,θ];exact aa rfl
   have f18:J.frozen? ⟨b18,0,none⟩=false:=by rw [Kx δ (show b18< _ by omega),V,θ];exact aN _ _ _ _
   have c16:J.cell? ⟨b16,0,none⟩=some (.string ⟨#[]⟩):=by rw [W,η];exact aa rfl
   have f16:J.frozen? ⟨b16,0,none⟩=false:=by rw [W,η];exact aN _ _ _ _
   refine⟨Ex.trans κ δ,⟨⟨_,c16⟩,f16⟩,λZ H=>?_⟩;have υ:Ex w6 Z:=H▸Ex.own (Ex.trans κ δ) (by omega) _;have s21:Z.heap.size=J.heap.size:=by rw [H,JI]
   have d16:Z.cell? ⟨b16,0,none⟩=some (.string (ab [])):=by rw [H];exact Jk _ _ _ c16
   have d18:Z.cell? ⟨b18,0,none⟩=some (.int .u32 0):=by rw [H,I4 _ _ _ _ (λe=>by injection e with e1 e2;omega)];exact c18
   refine⟨υ,⟨⟨_,d18⟩,by rw [H,Jl];exact f18⟩,λG I=>?_⟩;have ε:Ex w6 G:=I▸Ex.own υ (by omega) _;have s23:G.heap.size=Z.heap.size:=by rw [I,JI]
   refine rest b16 b18 G ε ?_ ?_ ?_ (by omega) (by omega) (by omega) (by omega) (by omega)
   ·rw [I,I4 _ _ _ _ (λe=>by injection e with e1 e2;omega)];exact d16
   ·rw [I];exact Jk _ _ _ d18
   ·rw [I,Jl,H,Jl];exact f16
theorem FL:∀n,Fs n
 | 0=>by
  intro z G;rcases G with⟨k,a,b,o,q,rfl,I⟩ | ⟨J,rfl,H⟩<;>simp [Lv.sz]at z
 | n+1=>BK (tT (FL n))
theorem HX (n:Nat):GD n:=tT (FL n)
end Go.Proofs.YtdecokaadekjnaaGreat
namespace Go.Proofs.YtdecokaadekjnaaGreat
namespace Lv
def PNf:Lv->Prop
 | nil=>True
 | thr _ _ _ _ _ n=>n.PNf
 | sum z n=>z.PNf/\n.PNf
 | part o q n=>((∀x∈o,q.has x=true)/\q≠nil/\∀z,q=sum z nil->o≠[])/\n.PNf
theorem re:∀{l m:Lv},(l.app m).PNf↔l.PNf/\m.PNf
 | nil,m=>by simp [app,PNf]
 | thr k a b o r n,m=>by simp only [app,PNf,re (l:=n)]
 | sum z n,m=>by simp only [app,PNf,re (l:=n),K9]
 | part o q n,m=>by simp only [app,PNf,re (l:=n),K9]
def ui:Lv->Prop
 | nil=>True
 | thr _ _ _ _ _ n=>n.ui
 | sum z n=>(z.PNf/\z.ui)/\n.ui
 | part _ q n=>q.ui/\n.ui
theorem lI:∀{l m:Lv},(l.app m).ui↔l.ui/\m.ui
 | nil,m=>by simp [app,ui]
 | thr k a b o r n,m=>by simp only [app,ui,lI (l:=n)]
 | sum z n,m=>by simp only [app,ui,lI (l:=n),K9]
 | part o q n,m=>by simp only [app,ui,lI (l:=n),K9]
theorem Fe {z:Lv}{n:List Nat×Lv}(h:z.PNf/\z.ui)(G:n.2.ui):(spl z n).2.ui:=by
 unfold spl;split
 ·exact G
 ·exact lI.2 ⟨h.2.1,G⟩
 ·exact⟨h,G⟩
theorem Hn {o:List Nat}{q n:Lv}(H:∀x∈o,q.has x=true)(h:q.ui)(z:n.PNf/\n.ui):(prt o q n).PNf/\(prt o q n).ui:=by
 unfold prt;split
 ·exact z
 ·rename_i I;split
  ·exact⟨re.2 ⟨h.1.1,z.1⟩,lI.2 ⟨h.1.2,z.2⟩⟩
  ·rename_i G;exact⟨⟨⟨H,by simp,λ _ _ e=>G (by rw [e];rfl)⟩,z.1⟩,h,z.2⟩
 ·rename_i V G J;exact⟨⟨⟨H,G,λI e=>(J I e).elim⟩,z.1⟩,h,z.2⟩
theorem ny:∀(l:Lv),(l.sh true=true->(tid l).2.ui)/\(l.sh false=true->(tid l).2.PNf/\(tid l).2.ui)
 | nil=>⟨λ _=>trivial,λ _=>⟨trivial,trivial⟩⟩
 | thr k a b o r n=>by
  refine⟨λh=>?_,λh=>by simp [sh]at h⟩;simp only [sh,IZ]at h;have G:=(ny r).1 h.1;have z:=(ny n).1 h.2;have h4:(kept o (tid r)).2=(tid r).2:=rfl;simp only [tid];split
  ·exact lI.2 ⟨G,z⟩
  ·split
   ·exact z
   ·exact z
 | sum H n=>by
  refine⟨λh=>?_,λh=>by simp [sh]at h⟩;simp only [sh,IZ]at h;simp only [tid];exact Fe ((ny H).2 h.1) ((ny n).1 h.2)
 | part o q n=>by
  refine⟨λh=>by simp [sh]at h,λh=>?_⟩;simp only [sh,IZ]at h;simp only [tid];exact Hn (sZ o (tid q)) ((ny q).1 h.1) ((ny n).2 h.2)
theorem Fh {Z:Lv}(h:Z.PNf)(H:Z.sh false=true):prt (kept [] (spl Z ([],nil))).1 (kept [] (spl Z ([],nil))).2 nil=Z:=by
 unfold spl;split
 ·rfl
 ·rename_i o q;have e:(kept [] (o++(([],nil):List Nat×Lv).1,q.app (([],nil):List Nat×Lv).2))=(o,q):=by
   simp only [kept,JD,aW,JW]
   congr 1
   exact L9.2 h.1.1
  rw [e];obtain⟨_,z,G⟩:=h.1;show prt o q nil=_;unfold prt;split
  ·exact absurd rfl z
  ·rw [Jn];intro e;exact G _ rfl (by simpa using e)
  ·rfl
 ·simp only [kept,JD,List.filter_nil,prt,List.isEmpty_nil,KU,aW]
theorem Fx {o:List Nat}{q:Lv}{Z:Lv}(h:Z≠nil)(n:List Nat×Lv):spl (part o q Z) n=(n.1,sum (part o q Z) n.2):=by
 cases Z with
 | nil=>exact absurd rfl h
 | _=>rfl
end Lv
open T in
theorem fD {u:U}(z:Uq u)(n:u.Nr)(G:u.th=true):Lv.tid (flat u).2=([],tl [u])/\(flat u).1=[]:=by
 cases u with
 | nil=>cases G
 | par p q=>cases G
 | res x p=>cases G
 | snd a b p=>exact⟨by simp only [flat,Lv.tid,tl];simp [td,Lv.tidy],rfl⟩
 | rcv a x p=>exact⟨by simp only [flat,Lv.tid,tl];simp [td,Lv.tidy],rfl⟩
 | tau p=>exact⟨by simp only [flat,Lv.tid,tl];simp [td,Lv.tidy],rfl⟩
 | mat a b p=>refine⟨?_,rfl⟩;rw [oT,Jn n.1.1,dD,n.1.2];rfl
 | rep p=>refine⟨?_,rfl⟩;rw [oK,dD,n.1];rfl
 | sum p q=>
  refine⟨?_,rfl⟩;rw [oY,(fN p z.dU).2.2,(fN q z.dJ).2.2,<-sY];have H:=nQ n.1.1 z.dU;have I:=nQ n.1.2.1 z.dJ;simp only [tl];cases J:aw p with
  | nil=>exact absurd J H
  | cons t l=>
   rw [JZ,tp,Lv.Fx];intro V;have :=ze (l++aw q);rw [V]at this;simp only [Lv.len,I']at this;exact I (Jv (by omega))
open T in
theorem pD:∀{u:U},Uq u->u.Nr->Lv.tid (flat u).2=([],tl u.ths)/\(flat u).1=u.frL
 | .nil,_,_=>⟨rfl,rfl⟩
 | .res x p,z,n=>by
  obtain⟨G,H⟩:=pD z.res n.2;exact⟨G,by simp only [flat,frL,H]⟩
 | .par p q,z,n=>by
  obtain⟨G,H⟩:=fD z.fM n.2.1 n.1.1;obtain⟨I,h4⟩:=pD z.fp n.2.2;have h5:q.frL=[]:=by
   rcases n.1.2 with h | h
   ·exact iu h
   ·cases q<;>first | rfl | (cases h;done)
  refine⟨?_,by simp only [flat,frL,H,h4,h5,JD]⟩;simp only [flat];rw [Lv.cJ _ _ (bZ p),G,I];simp only [T.ths,JD];rw [show p::q.ths=[p]++q.ths from rfl,gP]
 | .snd a b p,z,n=>fD z n rfl
 | .rcv a b p,z,n=>fD z n rfl
 | .tau p,z,n=>fD z n rfl
 | .sum p q,z,n=>fD z n rfl
 | .mat a b p,z,n=>fD z n rfl
 | .rep p,z,n=>fD z n rfl
open T in
theorem Hs {u:U}(G:Uq u)(n:u.Nr):∀x∈u.frL,(td u).2.has x=true:=by
 induction u with
 | res y p H=>
  intro x z;rcases Jm.1 z with rfl | z
  ·exact(fJ p x G.fL).2 n.1
  ·exact H G.res n.2 x z
 | _=>intro x z;cases z
open T in
theorem iT {u:U}(z:Uq u)(n:u.Nr):td u=(u.frL,tl u.ths):=by
 obtain⟨G,I⟩:=pD z n;have H:=Hs z n;have e:(td u).2=tl u.ths:=by rw [qK,G]
 rw [e]at H;show Lv.kept (flat u).1 (Lv.tid (flat u).2)=_;rw [G,I];simp only [Lv.kept,JD]
 congr 1
 exact L9.2 H
theorem cG:∀u:U,(flat u).2.sh true=true
 | .nil=>rfl
 | .snd a b p=>by simp only [flat,Lv.sh,cG p,Ks]
 | .rcv a b p=>by simp only [flat,Lv.sh,cG p,Ks]
 | .tau p=>by simp only [flat,Lv.sh,cG p,Ks]
 | .mat a b p=>by simp only [flat,Lv.sh,cG p,Ks]
 | .rep p=>by simp only [flat,Lv.sh,cG p,Ks]
 | .res x p=>cG p
 | .par p q=>by simp only [flat];exact Lv.gD (cG p) (cG q)
 | .sum p q=>by simp only [flat,Lv.sh,cG p,cG q,Ks]
theorem zV (u:U):(td u).2.sh true=true:=Lv.dH _ _ (cG u)
theorem iy (f:Nat->Nat):∀(l:Lv) (b:Bool),(l.map f).sh b=l.sh b
 | .nil,_=>by simp [Lv.map,Lv.sh]
 | .thr k a b o r n,c=>by cases c<;>simp only [Lv.map,Lv.sh,iy f r,iy f n]
 | .sum z n,c=>by cases c<;>simp only [Lv.map,Lv.sh,iy f z,iy f n]
 | .part o q n,c=>by cases c<;>simp only [Lv.map,Lv.sh,iy f q,iy f n]
theorem oJ (o:List Nat)(q n:Lv):(Lv.tid (.part o q n)).2=Lv.prt (Lv.kept o (Lv.tid q)).1 (Lv.kept o (Lv.tid q)).2 (Lv.tid n).2:=rfl
open T in
theorem gw (f:Nat->Nat):∀(n:Nat) {u:U},u.size<=n->Uq u->u.Nr->
  Lv.tid ((td u).2.map f)=Lv.tid ((flat u).2.map f)/\(u.dead=false->(Lv.tid ((tp u.lT).map f)).2=Lv.prt (Lv.kept ((flat u).1.map f) (Lv.tid ((flat u).2.map f))).1 (Lv.kept ((flat u).1.map f) (Lv.tid ((flat u).2.map f))).2 .nil)
 | 0,u,h,_,_=>by cases u<;>simp [T.size]at h
 | k+1,u,h,z,n=>by
  have W:∀p:U,p.size<=k->Uq p->p.Nr->Lv.kept ((td p).1.map f) (Lv.tid ((td p).2.map f))=Lv.kept ((flat p).1.map f) (Lv.tid ((flat p).2.map f)):=λp H z n=>by
   rw [(gw f k H z n).1,iT z n,(pD z n).2]
  have key:∀(J:K) (a b:Nat) (p:U),p.size<=k->Uq p->p.Nr->Lv.tid ((Lv.thr J a b (td p).1 (td p).2 .nil).map f)=Lv.tid ((Lv.thr J a b (flat p).1 (flat p).2 .nil).map f):=λJ a b p H z n=>by
   simp only [Lv.map,Lv.tid,W p H z n]
  have one:Lv.tid ((td u).2.map f)=Lv.tid ((flat u).2.map f)->u.isS=false->(Lv.tid ((tp u.lT).map f)).2=Lv.prt (Lv.kept ((flat u).1.map f) (Lv.tid ((flat u).2.map f))).1 (Lv.kept ((flat u).1.map f) (Lv.tid ((flat u).2.map f))).2 .nil:=λe V=>by
   rw [gi V,tp];simp only [Lv.map,tp];rw [oJ,e,iT z n,(pD z n).2];rfl
  have G:u.th=true->(td u).2=tl [u]:=λht=>by rw [qK,(fD z n ht).1]
  cases u with
  | nil=>exact⟨rfl,λh=>by cases h⟩
  | snd a b p=>
   have e:Lv.tid ((td (.snd a b p)).2.map f)=Lv.tid ((flat (.snd a b p)).2.map f):=by rw [G rfl];exact key .s a b p (by simp only [T.size]at h;omega) z.snd n
   exact⟨e,λ _=>one e rfl⟩
  | rcv a b p=>
   have e:Lv.tid ((td (.rcv a b p)).2.map f)=Lv.tid ((flat (.rcv a b p)).2.map f):=by rw [G rfl];exact key .r a b p (by simp only [T.size]at h;omega) z.rcv n
   exact⟨e,λ _=>one e rfl⟩
  | tau p=>
   have e:Lv.tid ((td (.tau p)).2.map f)=Lv.tid ((flat (.tau p)).2.map f):=by rw [G rfl];exact key .t 0 0 p (by simp only [T.size]at h;omega) z.tau n
   exact⟨e,λ _=>one e rfl⟩
  | mat a b p=>
   have e:Lv.tid ((td (.mat a b p)).2.map f)=Lv.tid ((flat (.mat a b p)).2.map f):=by rw [G rfl];exact key .m a b p (by simp only [T.size]at h;omega) z.mat n.2
   exact⟨e,λ _=>one e rfl⟩
  | rep p=>
   have e:Lv.tid ((td (.rep p)).2.map f)=Lv.tid ((flat (.rep p)).2.map f):=by rw [G rfl];exact key .p 0 0 p (by simp only [T.size]at h;omega) z.rep n.2
   exact⟨e,λ _=>one e rfl⟩
  | res x p=>
   have e:Lv.tid ((td (.res x p)).2.map f)=Lv.tid ((flat (.res x p)).2.map f):=(gw f k (by simp only [T.size]at h;omega) z.res n.2).1;exact⟨e,λ _=>one e rfl⟩
  | par p q=>
   simp only [T.size]at h;have e:Lv.tid ((td (.par p q)).2.map f)=Lv.tid ((flat (.par p q)).2.map f):=by
    have h1:=(gw f k (by omega) z.fM n.2.1).1;have h2:=(gw f k (by omega) z.fp n.2.2).1;have e:(td (.par p q)).2=(td p).2.app (td q).2:=by simp only [qK,flat,Lv.cJ _ _ (bZ p)]
    rw [e];simp only [flat,Lv.e9];rw [Lv.cJ _ _ (Lv.mg (by rw [iy];exact zV p)),Lv.cJ _ _ (Lv.mg (by rw [iy];exact cG p)),h1,h2]
   exact⟨e,λ _=>one e rfl⟩
  | sum p q=>
   simp only [T.size]at h;have V:tl [T.sum p q]= .sum (tp (p::q.lT)) .nil:=by
    simp only [tl];rw [ec z.dU n.2.1 n.1.1,ec z.dJ n.2.2 n.1.2.1,gi n.1.2.2];rfl
   have Z:(Lv.tid ((tp (p::q.lT)).map f)).2=(Lv.tid ((Lv.part (flat p).1 (flat p).2 (.part (flat q).1 (flat q).2 .nil)).map f)).2:=by
    rw [tp];simp only [Lv.map];rw [oJ,oJ,oJ,W p (by omega) z.dU n.2.1,(gw f k (by omega) z.dJ n.2.2).2 n.1.2.1];rfl
   have e:Lv.tid ((td (.sum p q)).2.map f)=Lv.tid ((flat (.sum p q)).2.map f):=by
    rw [G rfl,V];simp only [flat,Lv.map,Lv.tid];rw [Z];simp only [Lv.map];rfl
   refine⟨e,λ _=>?_⟩;have I:((Lv.part (flat p).1 (flat p).2 (.part (flat q).1 (flat q).2 .nil)).map f).sh false=true:=by rw [iy];simp only [Lv.sh,cG,Ks]
   show(Lv.tid ((tp (p::q.lT)).map f)).2=_;rw [Z];have H:=(Lv.ny ((Lv.part (flat p).1 (flat p).2 (.part (flat q).1 (flat q).2 .nil)).map f)).2 I;have :=Lv.Fh H.1 (Lv.dH _ _ I);simp only [flat,Lv.map,KV,Lv.tid]at this|-;exact this.symm
structure Pc (x:List Nat×Lv)(t:U):Prop where
 own:x.1=(flat t).1
 sh:x.2.sh true=true
 tid:Lv.tid x.2=Lv.tid (flat t).2
def joinL:List (List Nat×Lv)->List Nat×Lv
 | []=>([],.nil)
 | x::l=>(x.1++(joinL l).1,x.2.app (joinL l).2)
theorem pA:∀l m:List (List Nat×Lv),joinL (l++m)=((joinL l).1++(joinL m).1,(joinL l).2.app (joinL m).2)
 | [],m=>rfl
 | x::l,m=>by simp only [JZ,joinL,pA l m,JH,Lv.cB]
theorem pO (x:List Nat×Lv):joinL [x]=x:=by simp only [joinL,JD,Lv.aW]
theorem lZ:∀l:List U,flat (T.parL l)=joinL (l.map flat)
 | []=>rfl
 | [t]=>by simp only [T.parL,JA,KV,pO]
 | t::u::l=>by
  have :=lZ (u::l);simp only [T.parL,flat,this,JA,joinL]
theorem pJ (p:U):∀o:List Nat,flat (T.resL o p)=(o++(flat p).1,(flat p).2)
 | []=>rfl
 | x::o=>by simp only [T.resL,flat,pJ p o,JZ]
theorem Pc.join:∀{zs:List ((List Nat×Lv)×U)},(∀z∈zs,Pc z.1 z.2)->Pc (joinL (zs.map (·.1))) (T.parL (zs.map (·.2)))
 | [],_=>⟨rfl,rfl,rfl⟩
 | z::zs,h=>by
  have G:=h z (by simp);have H:=Pc.join (zs:=zs) λy J=>h y (by simp [J])
  have e:flat (T.parL ((z::zs).map (·.2)))=joinL ((z::zs).map (λy=>flat y.2)):=by rw [lZ,KL];rfl
  have I:flat (T.parL (zs.map (·.2)))=joinL (zs.map (λy=>flat y.2)):=by rw [lZ,KL];rfl
  refine⟨?_,?_,?_⟩
  ·rw [e];simp only [JA,joinL];rw [G.own,H.own,I]
  ·simp only [JA,joinL];exact Lv.gD G.sh H.sh
  ·rw [e];simp only [JA,joinL];rw [Lv.cJ _ _ (Lv.mg G.sh),Lv.cJ _ _ (bZ z.2),G.tid,H.tid,I]
theorem xA {own:List Nat}{x:List Nat×Lv}{t:U}(h:Pc x t):Lv.tidy (own++x.1) x.2=td (T.resL own t):=by
 show _=Lv.tidy (flat (T.resL own t)).1 (flat (T.resL own t)).2;rw [pJ];simp only [Lv.tidy,h.own,h.tid]
theorem Pc.map (f:Nat->Nat){q:U}(z:Uq q)(n:q.Nr):Pc (Lv.dV f (td q)) (q.map f):=by
 have h:=(gw f _ (Jc _) z n).1;refine⟨?_,by rw [iy];exact zV q,?_⟩
 ·rw [cA,iT z n];show(T.frL q).map f=((flat q).1).map f;rw [(pD z n).2]
 ·rw [cA];exact h
theorem map_id:∀l:Lv,l.map id=l
 | .nil=>rfl
 | .thr k a b o r n=>by simp only [Lv.map,map_id r,map_id n,List.map_id,id,ite_self]
 | .sum z n=>by simp only [Lv.map,map_id z,map_id n]
 | .part o q n=>by simp only [Lv.map,map_id q,map_id n,List.map_id]
theorem eg:∀u:U,u.map id=u
 | .nil=>rfl
 | .snd a b p=>by simp only [T.map,eg p,id]
 | .rcv a b p=>by simp only [T.map,eg p,id]
 | .tau p=>by simp only [T.map,eg p]
 | .sum p q=>by simp only [T.map,eg p,eg q]
 | .par p q=>by simp only [T.map,eg p,eg q]
 | .res x p=>by simp only [T.map,eg p,id]
 | .mat a b p=>by simp only [T.map,eg p,id]
 | .rep p=>by simp only [T.map,eg p]
theorem Pc.nr {q:U}(z:Uq q)(n:q.Nr):Pc (td q) q:=by
 have h:=Pc.map id z n;rw [eg]at h;have e:Lv.dV id (td q)=td q:=by simp only [Lv.dV,map_id,List.map_id]
 rwa [e]at h
structure wq (l m:Lv):Prop where
 s:∀ρ tk,(thS l ρ tk).Perm (thS m ρ tk)
 bad:∀tk,thBad l tk=thBad m tk
 all:thAll l=thAll m
 most:ax l=ax m
 has:∀x,l.has x=m.has x
 nil:l.isNil=m.isNil
theorem wq.refl (l:Lv):wq l l:=⟨λ _ _=>J7 _,λ _=>rfl,rfl,rfl,λ _=>rfl,rfl⟩
theorem wq.trans {a b c:Lv}(h:wq a b)(k:wq b c):wq a c:=⟨λρ tk=>(h.s ρ tk).trans (k.s ρ tk),λtk=>(h.bad tk).trans (k.bad tk),h.all.trans k.all,h.most.trans k.most,λx=>(h.has x).trans (k.has x),h.nil.trans k.nil⟩
theorem lX (l m:Lv):(l.app m).isNil=(l.isNil&&m.isNil):=by cases l<;>simp [Lv.app,Lv.isNil]
theorem wq.app {a b c d:Lv}(h:wq a b)(k:wq c d):wq (a.app c) (b.app d):=
 ⟨λρ tk=>by rw [gd,gd];exact(h.s ρ tk).append (k.s ρ tk),λtk=>by rw [cR,cR,h.bad,k.bad],by rw [bX,bX,h.all,k.all],by rw [cn,cn,h.most,k.most],λx=>by rw [Lv.cY,Lv.cY,h.has,k.has],by rw [lX,lX,h.nil,k.nil]⟩
theorem wq.comm (a b:Lv):wq (a.app b) (b.app a):=
 ⟨λρ tk=>by rw [gd,gd];exact K1,λtk=>by rw [cR,cR,Bool.or_comm],by rw [bX,bX];omega,by rw [cn,cn];omega,λx=>by rw [Lv.cY,Lv.cY,Bool.or_comm],by rw [lX,lX,Bool.and_comm]⟩
theorem CL {r r':List Nat×Lv}(h:r.1.Perm r'.1)(k:wq r.2 r'.2):zk r=zk r':=by
 have z:kG r.2=kG r'.2:=by funext c;unfold kG;rw [k.has]
 have G:aP r.1 (thS r.2) ρ0 (kG r.2)=aP r'.1 (thS r'.2) ρ0 (kG r'.2):=by rw [z];exact kN h k.s _ _
 have H:fq r.1.length r.2.isNil (thBad r.2) (kG r.2)=fq r'.1.length r'.2.isNil (thBad r'.2) (kG r'.2):=by
  rw [z,h.length_eq,k.nil,show thBad r.2=thBad r'.2 from funext k.bad]
 unfold zk;rw [G,H,h.length_eq,k.most,k.all]
theorem wR:∀ts:List U,Lv.tid (joinL (ts.map flat)).2=joinL (ts.map λt=>Lv.tid (flat t).2)
 | []=>rfl
 | t::ts=>by simp only [JA,joinL,Lv.cJ _ _ (bZ t),wR ts]
theorem tU {l m:List (List Nat×Lv)}(h:l.Perm m):(joinL l).1.Perm (joinL m).1/\wq (joinL l).2 (joinL m).2:=by
 induction h with
 | nil=>exact⟨J7 _,wq.refl _⟩
 | cons x _ H=>exact⟨(J7 _).append H.1,(wq.refl _).app H.2⟩
 | swap x y l=>
  simp only [joinL];refine⟨?_,?_⟩
  ·rw [<-JH,<-JH];exact K1.append (J7 _)
  ·rw [<-Lv.cB,<-Lv.cB];exact(wq.comm _ _).app (wq.refl _)
 | trans _ _ z G=>exact⟨z.1.trans G.1,z.2.trans G.2⟩
theorem DM {own:List Nat}{ts z:List U}(h:ts.Perm z):jY (T.resL own (T.parL ts))=jY (T.resL own (T.parL z)):=by
 unfold jY;have e:∀ts:List U,td (T.resL own (T.parL ts))=Lv.kept (own++(joinL (ts.map flat)).1) (joinL (ts.map λt=>Lv.tid (flat t).2)):=λts=>by
  show Lv.tidy (flat _).1 (flat _).2=_;rw [pJ,lZ];simp only [Lv.tidy,wR]
 rw [e,e];have H:=tU (h.map flat);have G:=tU (h.map λt=>Lv.tid (flat t).2);refine CL ?_ G.2;simp only [Lv.kept];rw [show(λx=>(joinL (ts.map λt=>Lv.tid (flat t).2)).2.has x)=λx=>(joinL (z.map λt=>Lv.tid (flat t).2)).2.has x from funext G.2.has];exact(((J7 _).append H.1).append G.1).filter _
end Go.Proofs.YtdecokaadekjnaaGreat
namespace Go.Proofs.YtdecokaadekjnaaGreat
open Go Go.RowKit
def ρN:Rh:=λx=>if x< 26 then UInt8.ofNat (97+x)else 0
theorem Ip:Ih (dF []) ρN:=λx=>by
 unfold ρN;refine⟨?_,λh=>JB h,λh=> .inr ⟨rfl,Jn (by omega)⟩⟩;split
 ·rename_i h;revert h;revert x;decide+kernel
 ·decide
theorem Fy {x:Nat}(h:x< 26):oR 1 x=qO (UInt8.ofNat (97+x))/\lt (UInt8.ofNat (97+x))=true/\e0 (UInt8.ofNat (97+x))=x:=by
 have z:lt (UInt8.ofNat (97+x))=true:=by revert x;decide+kernel
 have G:(UInt8.ofNat (97+x)).toNat=97+x:=by rw [J4];omega
 refine⟨?_,z,by unfold e0;rw [G];omega⟩;unfold qO;rw [gC z,G,show 97+x - 97=x by omega]
def BP (l:Lv)(i:Nat):Tk:=λc=>lt c&&(decide (c.toNat - 97< i)&&l.has (e0 c))
theorem CV (l:Lv)(c:UInt8):BP l 0 c=false:=by simp [BP]
theorem EZ (l:Lv):BP l 26=kG l:=by
 funext c
 unfold BP kG;cases h:lt c
 ·rfl
 ·have :=bn h;simp [show c.toNat - 97< 26 by omega]
theorem qu.congr {x:UInt32}{tk tk':Tk}(h:qu x tk)(e:∀c,lt c=true->tk c=tk' c):qu x tk':=λc z=>by rw [h c z,e c z]
theorem HZ {w:World}{n r:Nat}{ρ:Rh}{tk tk':Tk}{bad:Bool}(h:Nm w n r ρ tk bad)(e:∀c,lt c=true->tk c=tk' c):Nm w n r ρ tk' bad:=by
 obtain⟨x,z,G⟩:=h.c1;exact⟨h.lt,h.lr,h.ne,h.c0,h.mp,⟨x,z,G.congr e⟩,h.c2,h.f⟩
theorem xL {l:Lv}{i:Nat}(J:i< 26)(c:UInt8)(G:lt c=true):(l.has i=true->cf (BP l i) (UInt8.ofNat (97+i)) c=BP l (i+1) c)/\(l.has i=false->BP l i c=BP l (i+1) c):=by
 have V:=bn G;have I:(UInt8.ofNat (97+i)).toNat=97+i:=by rw [J4];omega
 have he:e0 c=c.toNat - 97:=rfl;unfold cf BP;rw [G,he];by_cases h:c.toNat - 97=i
 ·have e:c=UInt8.ofNat (97+i):=Jw.1 (by omega);rw [h];constructor
  ·intro z;have hb:(c==UInt8.ofNat (97+i))=true:=by rw [e];exact beq_self_eq_true _
   rw [hb,z];simp
  ·intro z;simp [z]
 ·have e:c≠UInt8.ofNat (97+i):=λe=>h (by rw [e,I];omega)
  have H:decide (c.toNat - 97< i)=decide (c.toNat - 97< i+1):=by
   rw [K5];omega
  constructor
  ·intro _;rw [show(c==UInt8.ofNat (97+i))=false by simpa using e,H];simp
  ·intro _;rw [H]
theorem tW {D:Nat->Prop}{w:World}{v:Value}{o:List Nat}{l:Lv}(h:fS D w v o (af D w l))(ς:l.sh true=true)(htot:o.length+l.tot<=4294967295)(huq:tr (Lv.tidy o l).1 (Lv.tidy o l).2)(hfr:∀x,x∉(Lv.tidy o l).1->(Lv.tidy o l).2.fh x->x< 26){R:ay->Bool->World->Prop}
  (hR:∀w',Ex w w'->(∀s,zk (Lv.tidy o l)=some s->R s true w')/\(zk (Lv.tidy o l)=none->R [] false w')):Calls Tryz.prog 216 #[v] w (an [.s,.b] R):=by
 refine kA v w R ?_;refine Dg _ (Jc _) ς h (by omega) λv2 w3 x3 h2=>?_
 have htt:=nT o l;have J:(Lv.tidy o l).2.sh true=true:=Lv.dH _ _ ς;have υ:(Lv.tidy o l).2.sm=true:=Lv.mP _;generalize hr:Lv.tidy o l=r at*;obtain⟨I,z⟩:=r;simp only at*;have hst:=Lv.jo z;have hN:∀b,zk (I,z)=b->(b=none->∀w',Ex w w'->R [] false w'):=λb e1 e2 w' x=>(hR w' x).2 (e1.trans e2)
 refine DE _ (o:=I) (l:=z) (Jc _) J h2 (by show I.length+z.tot<=_;omega) λw6 x6=>?_
 have θ:Ex w w6:=Ex.trans x3 x6;have V:¬(max I.length (ax z)<=5/\I.length+thAll z<=8)->zk (I,z)=none:=λhc=>by unfold zk;rw [Jn (λh=>hc h.1)]
 by_cases h5:5< max I.length (ax z)
 ·exact dI (by omega) ((hR w6 θ).2 (V (by omega)))
 refine cC (by omega) ?_;by_cases h8:8< I.length+thAll z
 ·exact cS (by omega) ((hR w6 θ).2 (V (by omega)))
 refine aT (by omega) λb7 w8 hb7 ι=>⟨rfl,λb9 α β G=>?_⟩
 have x8:Ex w6 w8:=ι▸Ex.alloc w6 _;have φ:Ex w8 α:=G▸Ex.alloc w8 _;have s8:w8.heap.size=w6.heap.size+1:=by rw [ι,size_alloc]
 have s10:α.heap.size=w8.heap.size+1:=by rw [G,size_alloc]
 have s6:=x6.size;have s3:=x3.size;have e7:α.heap[b7]?=some (.map #[] 0):=by
  rw [φ.block b7 (by omega),ι,hb7];unfold World.alloc;simp
 have n10:Nm α b9 b7 ρN (BP z 0) false:=by
  refine⟨by omega,by omega,by omega,by rw [G,β];exact aa rfl,⟨dF [],⟨#[],0,e7,⟨by simp,by simp,by simp⟩,by simp,λq=>rfl⟩,Ip⟩,⟨0,by rw [G,β];exact aa rfl,λc _=>?_⟩,by rw [G,β];exact aa rfl,λj=>by rw [G,β];exact aN _ _ _ _⟩;rw [CV];simp
 have h3:fS (λg=>yQ w g/\g< w3.heap.size) w3 v2 I (af (λg=>yQ w g/\g< w3.heap.size) w3 z):=aB.sub (L:=(I,z)) h2 λg hg hd=>⟨hd,hg⟩
 have hD:∀g,(yQ w g/\g< w3.heap.size)->¬(g=b9\/g=b7):=λg hg=>by omega
 have ε:∀{w1:World},Ex w3 w1->fS (λg=>yQ w g/\g< w3.heap.size) w1 v2 I (af (λg=>yQ w g/\g< w3.heap.size) w1 z):=λk=>fS.ex h3 k
 refine⟨λx w'=>∃i:Nat,x=i/\i<=26/\Ex w6 w'/\Nm w' b9 b7 ρN (BP z i) false,λx _=>(26 - x).toNat,⟨0,rfl,by omega,Ex.trans x8 φ,n10⟩,λx w14 hI=>?_⟩;obtain⟨i,rfl,hi,W,κ⟩:=hI;refine⟨λhlt=>?_,λhge=>?_⟩
 ·have μ:i< 26:=by simp only [I0]at hlt;omega
  obtain⟨eb1,eb2,eb3⟩:=Fy μ;refine Hb _ (Jc _) J (ε (Ex.trans x6 W)) (by omega) λγ χ=>?_
  have δ:=κ.ex χ;have ζ:Ex w6 γ:=Ex.trans W χ;refine⟨λhh=>⟨λw'=>Ex γ w',λw18 ψ=>?_⟩,λhh=>⟨by unfold aj;omega,⟨i+1,by omega,by omega,ζ,HZ δ λc hc=>(xL μ c hc).2 hh⟩,by show((26:Int) - ((i:Int)+1)).toNat< ((26:Int) - i).toNat;omega⟩⟩;have ν:Ex γ w18:=ψ▸Ex.drew γ;obtain⟨y,hy,hyt⟩:=δ.c1;have ξ:=δ.ex ν;obtain⟨y',hy',_⟩:=ξ.c1;refine⟨ν,y,λw' x'=>by rw [x'.cell (show b9< _ from δ.lt)];exact hy,by omega,⟨⟨_,hy'⟩,ξ.f 1⟩,λw21 η=>⟨by unfold aj;omega,⟨i+1,by omega,by omega,?_,?_⟩,by show((26:Int) - ((i:Int)+1)).toNat< ((26:Int) - i).toNat;omega⟩⟩
  ·exact η▸Ex.own (Ex.trans ζ ν) (by omega) _
  ·refine HZ (ξ.set (tk':=cf (BP z i) (UInt8.ofNat (97+i))) (bad':=false) η (.inl ⟨rfl,rfl,_,rfl,?_⟩)) λc hc=>(xL μ c hc).1 hh
   rw [Ja,eb1];exact hyt.add eb2
 ·have:i=26:=by simp only [I1]at hge;omega
  subst this;rw [EZ]at κ;have hlS:aP I (thS z) ρN (kG z)=aP I (thS z) ρ0 (kG z):=dS (H:=λx=>z.fh x) (λρ ρ' tk=>ib z ρ ρ' tk) (λρ ρ' tk h=>sA z ρ ρ' tk h) λx hx hf=>by
   have :=hfr x hx hf;unfold ρN ρ0;rw [JB this]
  refine HX _ (Jc _) J υ huq (ε (Ex.trans x6 W)) hD κ (by omega) λο ρ' k23 n23 _=>⟨_,n23.c2,?_⟩
  rw [hlS,Lq];have x23:Ex w6 ο:=Ex.below W (Kp.below k23 W.size λg hg e=>by omega);have Z:Ex w ο:=Ex.trans θ x23;refine⟨λhb=>wB λq ω x26 hq=>⟨λh=>(hR ω (Ex.trans Z x26)).2 ?_,λh=>(hR ω (Ex.trans Z x26)).1 _ ?_⟩,λhb=>(hR ο Z).2 ?_⟩
  ·unfold zk;have:¬cZ (aP I (thS z) ρ0 (kG z)):=λhg=>by rw [hq.2 hg]at h;cases h
   rw [Jn (λh=>this h.2.2)]
  ·unfold zk;have:cZ (aP I (thS z) ρ0 (kG z)):=hq.1 (by cases q<;>first | rfl | cases h);rw [JB ⟨⟨by show max I.length (ax z)<=5;omega,by show I.length+thAll z<=8;omega⟩,hb,this⟩]
  ·unfold zk;rw [Jn (λh=>by have :=h.2.1;rw [hb]at this;cases this)]
end Go.Proofs.YtdecokaadekjnaaGreat
namespace Go.Proofs.YtdecokaadekjnaaGreat
open Go
set_option maxRecDepth 100000
theorem vk (n1:ay)(w:World)(R:Value->World->Prop)(h:gU 123 #[(.string (ab n1))] w λv2 q3 V=>aQ V (.cells #[(.int .i64 0),(.string (ab n1)),(.pointer none)] 148) λb5 W=>bH W λS7 Z=>ch 138 #[] Z λv9 G=>ch 137 #[(.pointer (some ⟨b5,0,none⟩)),v2,v9] G λv11 H=>ch 139 #[v11] H λz I=>oneV z=true/\bf I b5 2 z λJ=>R ((.pointer (some ⟨b5,0,none⟩))) J):
  Calls Tryz.prog 92 #[(.string (ab n1))] w (an [.v] R):=
 a7 (a8 [] [] [3]) [.tmp 2 .v] [.s n1] Tryz.func92 (by kernel_rfl) h
theorem qB (z:ay)(w:World)(R:Value->Bool->World->Prop)(h:gU 79 #[(.string (ab z))] w λv2 V H=>fR (!V) (bO 80 #[v2] H λW I=>ai (!W) (R (.pointer none) false I) (jg 175 #[v2] I λZ q8 J=>ai (!q8) (R (.pointer none) false J) (ch 92 #[(.string (ab Z))] J λv10 G=>R v10 true G))) (R (.pointer none) false H)):
  Calls Tryz.prog 135 #[(.string (ab z))] w (an [.v,.b] R):=
 a7 (a8 [] [] []) [.tmp 2 .v,.tmp 3 .b] [.s z] Tryz.func135 (by kernel_rfl) h
theorem eu (t1:Value)(w:World)(R:Value->World->Prop)(h:az t1 λb2 o3=>fT w b2 (o3+0) λc4=>∃J5:Bool->World->Prop,(ai (decide (c4=126)) (J5 ((decide (c4=126))) w) (ai (decide (c4=33)) (J5 ((decide (c4=33))) w) (J5 ((decide (c4=63))) w)))/\∀(x6:Bool) (w7:World),J5 x6 w7->ai x6 (bH w7 λS8 w9=>az t1 λb10 ω=>Hz S8 b10 (ω+0) λc12=>az t1 λb13 o14=>jX S8 b13 (o14+1) λn15=>az t1 λb16 o17=>jX S8 b16 (o17+2) λn18=>az t1 λb19 o20=>ck S8 b19 (o20+3) λv21=>oneV v21=true/\aQ w9 (.cells #[(.int .u8 c12.toNat),(.int .i64 n15),(.int .i64 n18),v21,(.bool false)] 160) λb22 θ=>S8 θ/\R ((.slice (some ⟨b22,0,none⟩) 1 1)) θ) (ai (decide (c4=42)) (aQ w7 (.cells #[] 160) λb24 ε=>az t1 λb26 o27=>aS ε b26 (o27+3) λv28=>az v28 λb29 o30=>aS ε b29 (o30+1) λv31=>bE v31 λl33=>oO ((.slice (some ⟨b24,0,none⟩) 0 0)) 0 ε λι α J z G=>ai (decide (z< (l33:Int))) (aF v31 z λb40 o41=>aS G b40 (o41+z.toNat* 1) λβ=>az β λb45 o46=>fT G b45 (o46+0) λc47=>ai (decide (c47=63)) (bH G λV w49=>az β λb50 o51=>jX V b50 (o51+1) λn52=>az β λb53 o54=>jX V b53 (o54+2) λn55=>az β λb56 o57=>ck V b56 (o57+3) λκ=>oneV κ=true/\aQ w49 (.cells #[(.int .u8 (UInt8.toNat 63)),(.int .i64 n52),(.int .i64 n55),κ,(.bool true)] 160) λb59 μ=>V μ/\fc 160 5 40 μ J (.slice (some ⟨b59,0,none⟩) 1 1) λν ζ=>V ζ/\aj (z+1)/\ι ν (z+1) ζ/\α ν (z+1) ζ< α J z G) (aj (z+1)/\ι J (z+1) G/\α J (z+1) G< α J z G)) (R J G)) (ai (decide (c4=43)) (aQ w7 (.cells #[] 160) λb68 ξ=>az t1 λb70 o71=>aS ξ b70 (o71+4) λv72=>bE v72 λl74=>oO ((.slice (some ⟨b68,0,none⟩) 0 0)) 0 ξ λI76 ο η H W=>ai (decide (H< (l74:Int))) (aF v72 H λb81 o82=>aS W b81 (o82+H.toNat* 1) λv85=>az v85 λb86 o87=>aS W b86 (o87+1) λς=>bE ς λl90=>oO η 0 W λI92 υ γ I Z=>ai (decide (I< (l90:Int))) (aF ς I λb97 o98=>aS Z b97 (o98+I.toNat* 1) λφ=>ch 140 #[φ] Z λχ ψ=>fc 160 5 40 ψ γ χ λv109 δ=>aj (I+1)/\I92 v109 (I+1) δ/\υ v109 (I+1) δ< υ γ I Z) (aj (H+1)/\I76 γ (H+1) Z/\ο γ (H+1) Z< ο η H W)) (R η W)) (R (.slice none 0 0) w7)))):
  Calls Tryz.prog 140 #[t1] w (an [.v] R):=
 a7 (a8 [(9,[(3,.v),(48,.i)]),(18,[(6,.v),(83,.i)]),(21,[(6,.v),(92,.i)])] [(5,[(15,.b)])] [5,12]) [.tmp 2 .v] [.v t1] Tryz.func140 (by kernel_rfl) h
theorem mI (s1:Value)(v2:Int)(w:World)(R:Int->World->Prop)(h:bE s1 λl4=>fY 0 w λV J z G=>ai (decide (z< (l4:Int))) (aF s1 z λb10 H=>pb G b10 (H+z.toNat* 1) λI=>ai (decide (v2=I)) (R z G) (aj (z+1)/\V (z+1) G/\J (z+1) G< J z G)) (R (-1) G)):
  Calls Tryz.prog 223 #[s1,(.int .i64 v2)] w (an [.i] R):=
 a7 (a8 [(2,[(8,.i)])] [] []) [.tmp 4 .i] [.v s1,.i v2] Tryz.func223 (by kernel_rfl) h
theorem jF (s1:Value)(v2:Int)(w:World)(R:Bool->World->Prop)(h:eW 223 #[s1,(.int .i64 v2)] w λz G=>R ((decide (0<=z))) G):
  Calls Tryz.prog 188 #[s1,(.int .i64 v2)] w (an [.b] R):=
 a7 (a8 [] [] []) [.tmp 4 .b] [.v s1,.i v2] Tryz.func188 (by kernel_rfl) h
theorem mw (s1:Value)(g2:Value)(o3:Value)(m4:Value)(w:World)(R:ay->Bool->World->Prop)(h:ch 180 #[o3] w λv5 w6=>oneV v5=true/\aQ w6 (.cells #[v5,(.slice none 0 0)] 155) λb7 w8=>az s1 λb9 ε=>aS w8 b9 (ε+2) λv11=>az v11 λζ η=>aS w8 ζ (η+1) λW=>bE W λθ=>fY 0 w8 λZ I z H=>ai (decide (z< (θ:Int))) (aF W z λι κ=>aS H ι (κ+z.toNat* 1) λα=>bO 188 #[g2,(.int .i64 z)] H λμ J=>ai (!μ) (aS J b7 1 λν=>oneV α=true/\aQ J (.cells #[α] 156) λb30 ξ=>fc 156 1 8 ξ ν (.slice (some ⟨b30,0,none⟩) 1 1) λv37 ο=>oneV v37=true/\bf ο b7 1 v37 λβ=>aj (z+1)/\Z (z+1) β/\I (z+1) β< I z H) (aj (z+1)/\Z (z+1) J/\I (z+1) J< I z H)) (bE m4 λς=>fY 0 H λυ γ G V=>ai (decide (G< (ς:Int))) (aF m4 G λφ χ=>aS V φ (χ+G.toNat* 1) λψ=>fC 179 #[(.pointer (some ⟨b7,0,none⟩)),ψ] V λδ=>aj (G+1)/\υ (G+1) δ/\γ (G+1) δ< γ G V) (jg 216 #[(.pointer (some ⟨b7,0,none⟩))] V λω q55 w56=>R ω q55 w56))):
  Calls Tryz.prog 176 #[s1,g2,o3,m4] w (an [.s,.b] R):=
 a7 (a8 [(3,[(27,.i)]),(9,[(49,.i)])] [] []) [.tmp 8 .s,.tmp 9 .b] [.v s1,.v g2,.v o3,.v m4] Tryz.func176 (by kernel_rfl) h
theorem my (z:Value)(s2:ay)(I:Bool)(w:World)(R:World->Prop)(h:az z λb4 o5=>aS w b4 (o5+0) λv6=>aQ w (.cells #[(.string (ab s2))] 9) λb7 w8=>fc 9 1 16 w8 v6 (.slice (some ⟨b7,0,none⟩) 1 1) λH J=>az z λb16 V=>oneV H=true/\bf J b16 (V+0) H λG=>az z λW Z=>Ac G W (Z+1) λα=>fR α (az z λβ γ=>bf G β (γ+1) (.bool (!I)) λδ=>R δ) (az z λε ζ=>bf G ε (ζ+1) (.bool true) λη=>R η)):
  Calls Tryz.prog 99 #[z,(.string (ab s2)),(.bool I)] w (an [] R):=
 a7 (a8 [] [] []) [] [.v z,.s s2,.b I] Tryz.func99 (by kernel_rfl) h
theorem jQ (z:Int)(c2:Value)(w:World)(R:Int->World->Prop)(h:az c2 λb3 J=>aS w b3 J λv5=>∃(I:Nat) (G:Value->Option Value),v5= .map (some I)/\IsMap w I (.int .i64) G/\∃H:Int,∃g9:Bool,((g9=true/\G (.int .i64 z)=some (.int .i64 H))\/(g9=false/\G (.int .i64 z)=none/\(Value.int .i64 H)=(.int .i64 0)))/\ai g9 (R H w) (R z w)):
  Calls Tryz.prog 239 #[(.int .i64 z),c2] w (an [.i] R):=
 a7 (a8 [] [] []) [.tmp 3 .i] [.i z,.v c2] Tryz.func239 (by kernel_rfl) h
theorem kE (m1:Value)(l2:Value)(t3:Value)(w:World)(R:Value->World->Prop)(h:oneV t3=true/\aQ w (.cells #[t3] 226) λb4 w5=>aQ w5 (.cells #[(.slice none 0 0),(.slice none 0 0)] 155) λb6 w7=>az l2 λb8 o9=>aS w7 b8 (o9+0) λv10=>bE v10 λl12=>fY 0 w7 λI14 m15 V ε=>ai (decide (V< (l12:Int))) (aF v10 V λb18 o19=>pb ε b18 (o19+V.toNat* 1) λn22=>bH ε λS23 w24=>ck S23 b4 0 λv25=>eW 178 #[m1] w24 λn26 w27=>S23 w27/\∃(ν:Nat) (m29:Value->Option Value),v25= .map (some ν)/\IsMap w27 ν (.int .i64) m29/\∀w30:World,IsMap w30 ν (.int .i64) (eo m29 (.int .i64 n22) (.int .i64 n26))->cX w27 w30 ν->bH w30 λζ ga=>ck ζ b6 0 λv33=>ck ζ b4 0 λv34=>∃(r35:Nat) (m36:Value->Option Value),v34= .map (some r35)/\IsMap ga r35 (.int .i64) m36/\∃y37:Int,∃g38:Bool,((g38=true/\m36 (.int .i64 n22)=some (.int .i64 y37))\/(g38=false/\m36 (.int .i64 n22)=none/\(Value.int .i64 y37)=(.int .i64 0)))/\ζ ga/\aQ ga (.cells #[(.int .i64 y37)] 3) λb39 w40=>ζ w40/\fc 3 1 8 w40 v33 (.slice (some ⟨b39,0,none⟩) 1 1) λv46 w47=>ζ w47/\oneV v46=true/\bf w47 b6 0 v46 λw49=>aj (V+1)/\I14 (V+1) w49/\m15 (V+1) w49< m15 V ε) (az l2 λb50 o51=>aS ε b50 (o51+1) λv52=>bE v52 λl54=>fY 0 ε λI56 m57 W η=>ai (decide (W< (l54:Int))) (aF v52 W λb60 o61=>aS η b60 (o61+W.toNat* 1) λz=>az z λb65 o66=>fT η b65 (o66+0) λc67=>aQ η (.cells #[(.int .u8 c67.toNat),(.int .i64 0),(.int .i64 0),(.pointer none),(.slice none 0 0)] 201) λH Z=>∃δ:World->Prop,(az z λb71 o72=>fT Z b71 (o72+0) λξ=>ai (decide (ξ=63)) (az z λb74 o75=>pb Z b74 (o75+1) λn76=>∃(f77:Nat) (c78:List Value),(Value.func (.func 239) #[] #[(.pointer (some ⟨b4,0,none⟩))])= .func (.func f77) #[] (List.toArray c78)/\List.contains dC f77=true/\eW f77 (List.toArray ([(.int .i64 n76)]++c78)) Z λn79 w80=>bf w80 H 1 (.int .i64 n79) λw82=>bH w82 λS83 w84=>ck S83 b4 0 λv85=>az z λb86 o87=>jX S83 b86 (o87+2) λn88=>eW 178 #[m1] w84 λn89 w90=>S83 w90/\∃(ο:Nat) (m92:Value->Option Value),v85= .map (some ο)/\IsMap w90 ο (.int .i64) m92/\∀w93:World,IsMap w93 ο (.int .i64) (eo m92 (.int .i64 n88) (.int .i64 n89))->cX w90 w93 ο->bH w93 λS94 w95=>ck S94 b4 0 λv96=>az z λb97 o98=>jX S94 b97 (o98+2) λn99=>∃(ς:Nat) (θ:Value->Option Value),v96= .map (some ς)/\IsMap w95 ς (.int .i64) θ/\∃ι:Int,∃υ:Bool,((υ=true/\θ (.int .i64 n99)=some (.int .i64 ι))\/(υ=false/\θ (.int .i64 n99)=none/\(Value.int .i64 ι)=(.int .i64 0)))/\bf w95 H 2 (.int .i64 ι) λw105=>δ w105) (ai (decide (ξ=33)) (ai (decide (ξ=33)) (bH Z λα w107=>az z λb108 o109=>jX α b108 (o109+1) λn110=>az z λb111 o112=>jX α b111 (o112+2) λn113=>∃(f114:Nat) (φ:List Value),(Value.func (.func 239) #[] #[(.pointer (some ⟨b4,0,none⟩))])= .func (.func f114) #[] (List.toArray φ)/\List.contains dC f114=true/\eW f114 (List.toArray ([(.int .i64 n110)]++φ)) w107 λn116 χ=>α χ/\∃(f118:Nat) (ψ:List Value),(Value.func (.func 239) #[] #[(.pointer (some ⟨b4,0,none⟩))])= .func (.func f118) #[] (List.toArray ψ)/\List.contains dC f118=true/\eW f118 (List.toArray ([(.int .i64 n113)]++ψ)) χ λn120 ω=>α ω/\bf ω H 1 (.int .i64 n116) λw123=>bf w123 H 2 (.int .i64 n120) λw125=>δ w125) (δ Z)) (ai (decide (ξ=61)) (bH Z λβ w127=>az z λb128 o129=>jX β b128 (o129+1) λn130=>az z λb131 o132=>jX β b131 (o132+2) λn133=>∃(f134:Nat) (c135:List Value),(Value.func (.func 239) #[] #[(.pointer (some ⟨b4,0,none⟩))])= .func (.func f134) #[] (List.toArray c135)/\List.contains dC f134=true/\eW f134 (List.toArray ([(.int .i64 n130)]++c135)) w127 λn136 w137=>β w137/\∃(f138:Nat) (c139:List Value),(Value.func (.func 239) #[] #[(.pointer (some ⟨b4,0,none⟩))])= .func (.func f138) #[] (List.toArray c139)/\List.contains dC f138=true/\eW f138 (List.toArray ([(.int .i64 n133)]++c139)) w137 λn140 w141=>β w141/\bf w141 H 1 (.int .i64 n136) λw143=>bf w143 H 2 (.int .i64 n140) λw145=>δ w145) (δ Z))))/\∀(γ:World),δ γ->∃κ:World->Prop,(az z λb148 o149=>aS γ b148 (o149+3) λv150=>∃q151:Option Addr,v150= .pointer q151/\ai (!Option.isNone q151) (bH γ λS152 w153=>az z λb154 o155=>ck S152 b154 (o155+3) λv156=>ck S152 b4 0 λv157=>ch 217 #[m1,v156,v157] w153 λv158 w159=>oneV v158=true/\bf w159 H 3 v158 λw161=>κ w161) (κ γ))/\∀(μ:World),κ μ->az z λb163 o164=>aS μ b163 (o164+4) λv165=>bE v165 λl167=>fY 0 μ λI169 m170 G I=>ai (decide (G< (l167:Int))) (aF v165 G λb173 o174=>aS I b173 (o174+G.toNat* 1) λv177=>bH I λJ w179=>ck J H 4 λv180=>ck J b4 0 λv181=>ch 217 #[m1,v177,v181] w179 λv182 w183=>J w183/\oneV v182=true/\aQ w183 (.cells #[v182] 146) λb184 w185=>J w185/\fc 146 1 8 w185 v180 (.slice (some ⟨b184,0,none⟩) 1 1) λv191 w192=>J w192/\oneV v191=true/\bf w192 H 4 v191 λw194=>aj (G+1)/\I169 (G+1) w194/\m170 (G+1) w194< m170 G I) (aS I b6 1 λv195=>aQ I (.cells #[(.pointer (some ⟨H,0,none⟩))] 156) λb196 w197=>fc 156 1 8 w197 v195 (.slice (some ⟨b196,0,none⟩) 1 1) λv203 w204=>oneV v203=true/\bf w204 b6 1 v203 λw206=>aj (W+1)/\I56 (W+1) w206/\m57 (W+1) w206< m57 W η)) (R ((.pointer (some ⟨b6,0,none⟩))) η))):
  Calls Tryz.prog 217 #[m1,l2,t3] w (an [.v] R):=
 a7 (a8 [(3,[(23,.i)]),(10,[(50,.i)]),(24,[(132,.i)])] [(21,[]),(23,[])] [5,6,16,17,20,22,26]) [.tmp 6 .v] [.v m1,.v l2,.v t3] Tryz.func217 (by kernel_rfl) h
theorem jP (s1:Value)(Z:Value)(n3:Int)(w:World)(R:Value->World->Prop)(h:∃c4:List Value,Z= .agg (List.toArray c4)/\aQ w (.cells (List.toArray c4) 160) λb5 w6=>bH w6 λI w8=>az s1 λb9 α=>ck I b5 3 λv11=>jX I b5 2 λβ=>aQ w8 (Obj.map #[] 0) λJ H=>I H/\∃(z:Nat) (V:Value->Option Value),(Value.map (some J))= .map (some z)/\IsMap H z (.int .i64) V/\∀G:World,IsMap G z (.int .i64) (eo V (.int .i64 β) (.int .i64 n3))->cX H G z->I G/\ch 217 #[(.pointer (some ⟨b9,(α+0),none⟩)),v11,(.map (some J))] G λγ W=>I W/\R γ W):
  Calls Tryz.prog 177 #[s1,Z,(.int .i64 n3)] w (an [.v] R):=
 a7 (a8 [] [] [1]) [.tmp 6 .v] [.v s1,.v Z,.i n3] Tryz.func177 (by kernel_rfl) h
theorem iG (s1:Value)(w:World)(R:Value->World->Prop)(h:bE s1 λl3=>ai (decide ((l3:Int)< 2)) (R s1 w) (fY 1 w λI5 m6 H w8=>bE s1 λφ=>ai (decide (H< (φ:Int))) (bH w8 λμ θ=>aF s1 H λχ ψ=>gV μ χ (ψ+H.toNat* 1) λω=>aj (H - 1)/\aF s1 (H - 1) λb19 o20=>gV μ b19 (o20+Int.toNat (H - 1)* 1) λs23=>ai (decide (ω=s23)) (∃(a24:Option Addr) (J I:Nat),s1= .slice a24 J I/\0<=(H:Int)/\(H:Int)<=(J:Int)/\(J:Int)<=(I:Int)/\xR H 1 θ λν W z G V=>bE (.slice (if I=H.toNat then a24 else Option.map (·.add (H.toNat* 1)) a24) (Int.toNat (J:Int) - H.toNat) (I - H.toNat)) λl33=>ai (decide (G< (l33:Int))) (bH V λξ Z=>aF (.slice (if I=H.toNat then a24 else Option.map (·.add (H.toNat* 1)) a24) (Int.toNat (J:Int) - H.toNat) (I - H.toNat)) G λb37 o38=>gV ξ b37 (o38+G.toNat* 1) λs41=>aj (G - 1)/\aF (.slice (if I=H.toNat then a24 else Option.map (·.add (H.toNat* 1)) a24) (Int.toNat (J:Int) - H.toNat) (I - H.toNat)) (G - 1) λb42 o43=>gV ξ b42 (o43+Int.toNat (G - 1)* 1) λs46=>ai (!decide (s41=s46)) (aF (.slice (if I=H.toNat then a24 else Option.map (·.add (H.toNat* 1)) a24) (Int.toNat (J:Int) - H.toNat) (I - H.toNat)) G λb47 o48=>ct Z b47 (o48+G.toNat* 1) λs51=>aF s1 z λb52 o53=>bf Z b52 (o53+z.toNat* 1) (.string (ab s51)) λο=>aj (z+1)/\aj (G+1)/\ν (z+1) (G+1) ο/\W (z+1) (G+1) ο< W z G V) (aj (G+1)/\ν z (G+1) Z/\W z (G+1) Z< W z G V)) (∃(ι:Option Addr) (α β:Nat),s1= .slice ι α β/\0<=(z:Int)/\(z:Int)<=(α:Int)/\(α:Int)<=(β:Int)/\∃(ς:Option Addr) (γ c63:Nat),(Value.slice (if β=z.toNat then ι else Option.map (·.add (z.toNat* 1)) ι) (Int.toNat (α:Int) - z.toNat) (β - z.toNat))= .slice ς γ c63/\((γ=0/\∃(κ:Option Addr) (l68 δ:Nat),s1= .slice κ l68 δ/\0<=(0:Int)/\(0:Int)<=z/\z<=(δ:Int)/\R ((.slice (if δ=Int.toNat 0 then κ else Option.map (·.add (Int.toNat 0* 1)) κ) (z.toNat - Int.toNat 0) (δ - Int.toNat 0))) V)\/∃(ε ζ:Nat),ς=some ⟨ε,ζ,none⟩/\(∀j,j< γ->(∃u,World.cell? V ⟨ε,ζ+j,none⟩=some u)/\World.frozen? V ⟨ε,ζ+j,none⟩=false)/\∀υ:World,υ=World.setCells V ε ζ (List.replicate γ (.string ⟨#[]⟩))->∃(a70:Option Addr) (l71 η:Nat),s1= .slice a70 l71 η/\0<=(0:Int)/\(0:Int)<=z/\z<=(η:Int)/\R ((.slice (if η=Int.toNat 0 then a70 else Option.map (·.add (Int.toNat 0* 1)) a70) (z.toNat - Int.toNat 0) (η - Int.toNat 0))) υ))) (aj (H+1)/\I5 (H+1) θ/\m6 (H+1) θ< m6 H w8)) (R s1 w8))):
  Calls Tryz.prog 149 #[s1] w (an [.v] R):=
 a7 (a8 [(4,[(3,.i)]),(9,[(3,.i),(5,.i)])] [] [6,11]) [.tmp 2 .v] [.v s1] Tryz.func149 (by kernel_rfl) h
theorem lD (z:Value)(w:World)(R:Value->Bool->World->Prop)(h:az z λb2 J=>Ac w b2 (J+1) λV=>ai V (R (.slice none 0 0) false w) (az z λb5 W=>aS w b5 (W+0) λZ=>fC 115 #[Z] w λI=>az z λb9 G=>aS I b9 (G+0) λv11=>ch 149 #[v11] I λv12 H=>R v12 true H)):
  Calls Tryz.prog 100 #[z] w (an [.v,.b] R):=
 a7 (a8 [] [] []) [.tmp 2 .v,.tmp 3 .b] [.v z] Tryz.func100 (by kernel_rfl) h
theorem iD (s1:Value)(w:World)(R:Value->Bool->World->Prop)(h:aQ w (.cells #[(.slice none 0 0),(.bool false)] 115) λb2 w3=>az s1 λb4 o5=>aS w3 b4 (o5+2) λv6=>az v6 λb7 o8=>aS w3 b7 (o8+1) λv9=>bE v9 λl11=>fY 0 w3 λI13 m14 W υ=>ai (decide (W< (l11:Int))) (aF v9 W λb17 o18=>aS υ b17 (o18+W.toNat* 1) λv21=>ch 140 #[v21] υ λv22 w23=>bE v22 λl25=>fY 0 w23 λI27 φ H α=>ai (decide (H< (l25:Int))) (aF v22 H λθ ι=>∃c35:UInt8,∃n36:Int,∃n37:Int,∃v38:Value,∃q39:Bool,(World.cell? α ⟨θ,(ι+H.toNat* 5),none⟩=some (.int .u8 c35.toNat)/\World.cell? α ⟨θ,((ι+H.toNat* 5)+1),none⟩=some (.int .i64 n36)/\World.cell? α ⟨θ,(((ι+H.toNat* 5)+1)+1),none⟩=some (.int .i64 n37)/\World.cell? α ⟨θ,((((ι+H.toNat* 5)+1)+1)+1),none⟩=some v38/\World.cell? α ⟨θ,(((((ι+H.toNat* 5)+1)+1)+1)+1),none⟩=some (.bool q39)/\True)/\aQ α (.cells #[(.int .u8 0),(.int .i64 0),(.int .i64 0),(.pointer none),(.bool false)] 160) λε w41=>vf w41 ε 0 5 [(.int .u8 c35.toNat),(.int .i64 n36),(.int .i64 n37),v38,(.bool q39)] λw42=>∃χ:World->Prop,(fT w42 ε 0 λc44=>ai (decide (c44=126)) (bH w42 λZ w46=>az s1 λb47 o48=>ck Z b47 (o48+2) λv49=>az v49 λb50 o51=>ck Z b50 (o51+0) λv52=>ck Z ε 3 λv53=>(aQ w46 (.cells #[(.int .i64 W)] 3) λb54 w55=>Z w55/\oneV v53=true/\aQ w55 (.cells #[v53] 146) λb56 w57=>Z w57/\jg 176 #[s1,(.slice (some ⟨b54,0,none⟩) 1 1),v52,(.slice (some ⟨b56,0,none⟩) 1 1)] w57 λs58 q59 w60=>Z w60/\fC 99 #[(.pointer (some ⟨b2,0,none⟩)),(.string (ab s58)),(.bool q59)] w60 λw61=>Z w61/\χ w61)/\(oneV v53=true/\aQ w46 (.cells #[v53] 146) λb62 w63=>Z w63/\aQ w63 (.cells #[(.int .i64 W)] 3) λb64 w65=>Z w65/\jg 176 #[s1,(.slice (some ⟨b64,0,none⟩) 1 1),v52,(.slice (some ⟨b62,0,none⟩) 1 1)] w65 λs66 q67 w68=>Z w68/\fC 99 #[(.pointer (some ⟨b2,0,none⟩)),(.string (ab s66)),(.bool q67)] w68 λw69=>Z w69/\χ w69)) (χ w42))/\∀(ζ:World),χ ζ->fT ζ ε 0 λc71=>ai (!decide (c71=33)) (aj (H+1)/\I27 (H+1) ζ/\φ (H+1) ζ< φ H α) (az s1 λb72 o73=>aS ζ b72 (o73+2) λv74=>az v74 λb75 o76=>aS ζ b75 (o76+1) λv77=>bE v77 λl79=>fY 0 ζ λI81 m82 β κ=>ai (decide (β< (l79:Int))) (aF v77 β λb85 o86=>aS κ b85 (o86+β.toNat* 1) λv89=>ch 140 #[v89] κ λv90 w91=>bE v90 λl93=>fY 0 w91 λψ γ z V=>ai (decide (z< (l93:Int))) (aF v90 z λμ δ=>∃ω:UInt8,∃n104:Int,∃n105:Int,∃v106:Value,∃q107:Bool,(World.cell? V ⟨μ,(δ+z.toNat* 5),none⟩=some (.int .u8 ω.toNat)/\World.cell? V ⟨μ,((δ+z.toNat* 5)+1),none⟩=some (.int .i64 n104)/\World.cell? V ⟨μ,(((δ+z.toNat* 5)+1)+1),none⟩=some (.int .i64 n105)/\World.cell? V ⟨μ,((((δ+z.toNat* 5)+1)+1)+1),none⟩=some v106/\World.cell? V ⟨μ,(((((δ+z.toNat* 5)+1)+1)+1)+1),none⟩=some (.bool q107)/\True)/\aQ V (.cells #[(.int .u8 0),(.int .i64 0),(.int .i64 0),(.pointer none),(.bool false)] 160) λI w109=>vf w109 I 0 5 [(.int .u8 ω.toNat),(.int .i64 n104),(.int .i64 n105),v106,(.bool q107)] λG=>fR (decide (β=W)) (fT G I 0 λc111=>fR (!decide (c111=63)) (pb G I 1 λn112=>pb G ε 1 λn113=>ai (!decide (n112=n113)) (aj (z+1)/\ψ (z+1) G/\γ (z+1) G< γ z V) (aQ G (.cells #[(.int .i64 W),(.int .i64 β)] 3) λb114 ν=>∃ξ:Value->World->Prop,(Ac ν I 4 λq117=>ai q117 (∃(ο:Option Addr) (l119 η:Nat),(Value.slice (some ⟨b114,0,none⟩) 2 2)= .slice ο l119 η/\0<=(0:Int)/\(0:Int)<=1/\1<=(η:Int)/\ξ ((.slice (if η=Int.toNat 0 then ο else Option.map (·.add (Int.toNat 0* 1)) ο) (Int.toNat 1 - Int.toNat 0) (η - Int.toNat 0))) ν) (ξ ((.slice (some ⟨b114,0,none⟩) 2 2)) ν))/\∀(g121:Value) (w122:World),ξ g121 w122->bH w122 λJ w124=>az s1 λb125 o126=>ck J b125 (o126+2) λv127=>az v127 λb128 o129=>ck J b128 (o129+0) λv130=>ck J ε 3 λv131=>∃c132:UInt8,∃n133:Int,∃n134:Int,∃v135:Value,∃q136:Bool,(∀w',J w'->World.cell? w' ⟨I,0,none⟩=some (.int .u8 c132.toNat)/\World.cell? w' ⟨I,1,none⟩=some (.int .i64 n133)/\World.cell? w' ⟨I,2,none⟩=some (.int .i64 n134)/\World.cell? w' ⟨I,3,none⟩=some v135/\World.cell? w' ⟨I,4,none⟩=some (.bool q136)/\True)/\jX J ε 2 λn137=>ch 177 #[s1,(.agg #[(.int .u8 c132.toNat),(.int .i64 n133),(.int .i64 n134),v135,(.bool q136)]),(.int .i64 n137)] w124 λv138 w139=>J w139/\oneV v131=true/\oneV v138=true/\aQ w139 (.cells #[v131,v138] 146) λb140 w141=>J w141/\jg 176 #[s1,g121,v130,(.slice (some ⟨b140,0,none⟩) 2 2)] w141 λs142 q143 w144=>J w144/\fC 99 #[(.pointer (some ⟨b2,0,none⟩)),(.string (ab s142)),(.bool q143)] w144 λς=>J ς/\aj (z+1)/\ψ (z+1) ς/\γ (z+1) ς< γ z V)) (aj (z+1)/\ψ (z+1) G/\γ (z+1) G< γ z V)) (aj (z+1)/\ψ (z+1) G/\γ (z+1) G< γ z V)) (aj (β+1)/\I81 (β+1) V/\m82 (β+1) V< m82 β κ)) (aj (H+1)/\I27 (H+1) κ/\φ (H+1) κ< φ H α))) (aj (W+1)/\I13 (W+1) α/\m14 (W+1) α< m14 W υ)) (gU 100 #[(.pointer (some ⟨b2,0,none⟩))] υ λv146 q147 w148=>R v146 q147 w148)):
  Calls Tryz.prog 136 #[s1] w (an [.v,.b] R):=
 a7 (a8 [(3,[(24,.i)]),(6,[(32,.i)]),(12,[(68,.i)]),(15,[(76,.i)])] [(10,[]),(21,[(13,.v)])] [9,21]) [.tmp 2 .v,.tmp 3 .b] [.v s1] Tryz.func136 (by kernel_rfl) h
end Go.Proofs.YtdecokaadekjnaaGreat
namespace Go.Proofs.YtdecokaadekjnaaGreat
open Go Go.RowKit
theorem Dv {j:Nat}(z:j< 26):(List.replicate 26 (iv 0))[j]?=some (iv 0):=by rw [List.getElem?_replicate,JB z]
theorem F9 {j:Nat}(z:j< 26):(List.replicate 26 (iv 0)).toArray[j]?=some (iv 0):=by rw [LL];exact Dv z
theorem qm {w:World}{R:Value->World->Prop}(hR:∀w' cs,Ex w w'->Fj cs e0->R (.agg cs.toArray) w'):Calls Tryz.prog 138 #[] w (an [.v] R):=by
 refine oC w R ?_;intro b1 w2 Z H b3 J α I;have x2:Ex w w2:=H▸Ex.alloc w _;have x4:Ex w2 J:=I▸Ex.alloc w2 _;have s2:w2.heap.size=w.heap.size+1:=by rw [H,size_alloc]
 have s4:J.heap.size=w2.heap.size+1:=by rw [I,size_alloc]
 have c3:∀j,j< 26->J.cell? ⟨b3,0+j,none⟩=some (iv 0):=λj z=>by
  rw [I,α];refine aa ?_;rw [JC];exact F9 z
 have c1:∀j,j< 26->J.cell? ⟨b1,0+j,none⟩=some (iv 0):=λj z=>by
  rw [x4.cell (show b1< _ by omega),H,Z];refine aa ?_;rw [JC];exact F9 z
 have f3:∀j,J.frozen? ⟨b3,j,none⟩=false:=λj=>by rw [I,α];exact aN _ _ _ _
 have f1:∀j,J.frozen? ⟨b1,j,none⟩=false:=λj=>by rw [Kx x4 (show b1< _ by omega),H,Z];exact aN _ _ _ _
 refine⟨⟨rfl,rfl,λj z=>⟨⟨_,c3 j z⟩,f3 _⟩⟩,λw5 η=>?_⟩;obtain⟨k5,W,_,β⟩:=aY (b:=b3) _ J 0;rw [<-η]at k5 W β;have γ:∀j,j< 26->w5.cell? ⟨b3,0+j,none⟩=some (iv 0):=λj z=>by
  rw [β j (λi hi=>⟨_,c3 i hi⟩) z];exact Dv z
 have x5:Ex w w5:=Ex.below (Ex.trans x2 x4) (Kp.below k5 (Ex.trans x2 x4).size λg hg e=>by omega);have s5:=k5.size;have d1:∀j,j< 26->w5.cell? ⟨b1,0+j,none⟩=some (iv 0):=λj z=>by rw [IX (w:=J) (k5.block b1 (by omega) (by omega))];exact c1 j z
 refine⟨λx w'=>∃i:Nat,x=i/\i<=26/\Ex w w'/\b3< w'.heap.size/\(∀j,j< 26->w'.cell? ⟨b1,0+j,none⟩=some (iv 0))/\(∀j,w'.frozen? ⟨b1,j,none⟩=false)/\(∀j,w'.frozen? ⟨b3,j,none⟩=false)/\∀j,j< 26->w'.cell? ⟨b3,0+j,none⟩=some (iv (if j< i then j else 0)),
  λx _=>(26 - x).toNat,⟨0,rfl,by omega,x5,by omega,d1,λj=>by rw [W];exact f1 j,λj=>by rw [W];exact f3 j,λj z=>by rw [Jn (by omega)];exact γ j z⟩,λx w9 hI=>?_⟩
 obtain⟨i,rfl,hi,x9,l9,e1,g1,g3,e3⟩:=hI;refine⟨λθ=>?_,λι=>?_⟩
 ·have κ:i< 26:=by simp only [I0]at θ;omega
  rw [Ja,JE];refine⟨⟨by omega,by omega⟩,⟨⟨_,e3 i κ⟩,g3 _⟩,λξ G=>⟨by unfold aj;omega,⟨i+1,by omega,by omega,?_,?_,λj z=>?_,λj=>?_,λj=>?_,λj z=>?_⟩,by show((26:Int) - ((i:Int)+1)).toNat< ((26:Int) - i).toNat;omega⟩⟩
  ·exact G▸Ex.own x9 (by omega) _
  ·rw [G,JI];exact l9
  ·rw [G,I4 _ _ _ _ (λe=>by injection e with e1 e2;omega)];exact e1 j z
  ·rw [G,Jl];exact g1 j
  ·rw [G,Jl];exact g3 j
  ·by_cases μ:j=i
   ·subst μ;rw [G,JB (by omega)];exact Jk _ _ _ (e3 j z)
   ·rw [G,I4 _ _ _ _ (λe=>by injection e with e1 e2;omega),e3 j z]
    congr 2
    split<;>split<;>omega
 ·have:i=26:=by simp only [I1]at ι;omega
  subst this;have δ:∀j,j< 26->((List.range 26).map iv)[j]?=some (iv j):=λj z=>by simp [z]
  refine⟨(List.range 26).map iv,rfl,λj z=>by rw [e3 j z,δ j z,JB z],⟨rfl,rfl,λj z=>⟨⟨_,e1 j z⟩,g1 _⟩⟩,λν ε=>?_⟩;obtain⟨ζ,_,_,V⟩:=aY (b:=b1) ((List.range 26).map iv) w9 0;rw [<-ε]at ζ V;refine⟨(List.range 26).map iv,rfl,λj z=>V j (λi hi=>⟨_,e1 i (by simpa using hi)⟩) (by simpa using z),hR ν _ ?_ ⟨rfl,λc hc=>?_⟩⟩
  ·exact Ex.below x9 (Kp.below ζ x9.size λg hg e=>by omega)
  ·have :=bn hc;exact δ _ (by omega)
theorem E7 {t:P}(h:Lt t):Nu (num t e0 0).1:=by
 obtain⟨_,z,G,h4⟩:=rf (p:=t) λc H=>T.Al.free h c H
 exact⟨z,λy I=>G y (T.bz I),h4⟩
theorem cy:∀u:U,(flat u).1.length+(flat u).2.tot<=4* u.size
 | .nil=>by simp [flat,Lv.tot]
 | .snd a b p=>by have :=cy p;simp only [flat,Lv.tot,T.size,Jh];omega
 | .rcv a b p=>by have :=cy p;simp only [flat,Lv.tot,T.size,Jh];omega
 | .tau p=>by have :=cy p;simp only [flat,Lv.tot,T.size,Jh];omega
 | .mat a b p=>by have :=cy p;simp only [flat,Lv.tot,T.size,Jh];omega
 | .rep p=>by have :=cy p;simp only [flat,Lv.tot,T.size,Jh];omega
 | .res x p=>by have :=cy p;simp only [flat,T.size,IW];omega
 | .par p q=>by have :=cy p;have :=cy q;simp only [flat,Lv.bT,T.size,I'];omega
 | .sum p q=>by have :=cy p;have :=cy q;simp only [flat,Lv.tot,T.size,Jh];omega
theorem F6 {u:U}(h:Nu u):∀x,x∉(td u).1->(td u).2.fh x->x< 26:=λx z G=>h.fr x (Cb _ u (Jc _) h.uq x G z)
theorem uJ {D:Nat->Prop}{w:World}{t:P}{v:Value}(h:aG D w t v)(hD:∀g,D g->g< w.heap.size)(hl:Lt t)(hs:t.size<=1000000){R:ay->Bool->World->Prop}
  (hR:∀w',Ex w w'->(∀s,jY (num t e0 0).1=some s->R s true w')/\(jY (num t e0 0).1=none->R [] false w')):Calls Tryz.prog 175 #[v] w (an [.s,.b] R):=by
 refine mD v w R ?_;intro b2 I H z;have x3:Ex w I:=z▸Ex.alloc w _;have s3:I.heap.size=w.heap.size+1:=by rw [z,size_alloc]
 refine qm λw5 cs x5 J=>?_
 have G:Ex w w5:=Ex.trans x3 x5;have mk:Mk I b2 0:=⟨by omega,by rw [z,H];exact aa rfl,by rw [z,H];exact aN _ _ _ _⟩
 have V:aG D w5 t v:=aG.kp (Kp.ah G λ _=>False) (λ _ _ h=>h) h;refine F8 t V (λg hg e=>by have :=hD g hg;omega) (mk.ex x5) J hl (by omega) λv' w7 k7 _ h7=>?_
 have nu:=E7 hl;have α:=(bM t e0 0).1;have β:=cy (num t e0 0).1;have e:Lv.tidy (flat (num t e0 0).1).1 (flat (num t e0 0).1).2=td (num t e0 0).1:=rfl;refine tW h7 (cG _) (by omega) (by rw [e];exact yn nu.uq nu.bv) (by rw [e];exact F6 nu) λW Z=>?_
 have x7:Ex w w7:=Ex.below G (Kp.below k7.kp G.size λg hg e=>by omega);rw [e];exact hR W (Ex.trans x7 Z)
structure E9 (w:World)(D:Nat->Prop)(b:Nat)(n:Nat)(s:Tx)(L:List Nat×Lv):Prop where
 mc:Mk w b n
 tx:w.cell? ⟨b,1,none⟩=some (.string (ab s))
 l:∃v,w.cell? ⟨b,2,none⟩=some v/\aB D w L v
theorem zi {t:P}{w:World}(hl:Lt t)(hs:t.size<=1000000)(hlen:t.text.length<=1099511627776){R:Value->World->Prop}
  (hR:∀b w',Ex w w'->w.heap.size<=b->E9 w' (λg=>w.heap.size<=g/\g≠b/\g< w'.heap.size) b (num t e0 0).2 t.text (td (num t e0 0).1)->R (ptr b) w'):Calls Tryz.prog 92 #[.string (ab t.text)] w (an [.v] R):=by
 refine vk t.text w R ?_;refine Ad hlen λv2 q w4 x4 ο ς=>?_
 have hq:q=true:=by
  cases q
  ·exact absurd rfl (ς rfl t hl)
  ·rfl
 obtain⟨t',υ,et,φ⟩:=ο hq;have:t'=t:=ef (T.Al.wf υ) (T.Al.wf hl) et.symm;subst this;intro b5 Z V I;have x6:Ex w4 Z:=I▸Ex.alloc w4 _;have s6:Z.heap.size=w4.heap.size+1:=by rw [I,size_alloc]
 refine⟨λw'=>Ex Z w',λw8 ζ=>⟨ζ▸Ex.drew Z,?_⟩⟩;have x8:Ex Z w8:=ζ▸Ex.drew Z;have s4:=x4.size;have s8:=x8.size;have χ:Mk Z b5 0:=⟨by omega,by rw [I,V];exact aa rfl,by rw [I,V];exact aN _ _ _ _⟩
 have t6:Z.cell? ⟨b5,1,none⟩=some (.string (ab t'.text)):=by rw [I,V];exact aa rfl
 have l6:Z.cell? ⟨b5,2,none⟩=some (.pointer none):=by rw [I,V];exact aa rfl
 have f6:∀j,Z.frozen? ⟨b5,j,none⟩=false:=λj=>by rw [I,V];exact aN _ _ _ _
 refine qm λψ cs η ω=>?_
 have z:=Ex.trans x8 η;have θ:aG (λg=>yQ w g/\g< w4.heap.size) ψ t' v2:=aG.kp (Kp.ah (Ex.trans x6 z) λ _=>False) (λ _ _ h=>h) φ.bound;refine F8 t' θ (λg hg e=>by omega) (χ.ex z) ω hl (by omega) λv11 α W β h12=>?_
 have hsz:=(bM t' e0 0).1;have htt:=cy (num t' e0 0).1;refine Dg _ (Jc _) (cG _) h12 (by omega) λv13 J G ι=>⟨ι.one,?_⟩
 have x14':Ex α J:=G;have s12:=W.size;have s10:=η.size;have γ:b5< α.heap.size:=β.lt;have f14:∀j,J.frozen? ⟨b5,j,none⟩=false:=λj=>by rw [Kx G γ,W.fz,Kx z (show b5< _ by omega)];exact f6 j
 have t14:J.cell? ⟨b5,1,none⟩=some (.string (ab t'.text)):=by rw [G.cell (show b5< _ from γ),W.ce 1 (by omega),z.cell (show b5< _ by omega)];exact t6
 have κ:J.cell? ⟨b5,2,none⟩=some (.pointer none):=by rw [G.cell (show b5< _ from γ),W.ce 2 (by omega),z.cell (show b5< _ by omega)];exact l6
 have μ:=β.ex G;refine⟨⟨⟨_,κ⟩,f14 2⟩,λδ H=>?_⟩;have ε:Kr b5 J δ:=H▸Kr.set _ _ _;have ν:δ.cell? ⟨b5,0,none⟩=some (iv (num t' e0 0).2):=by rw [H,I4 _ _ _ _ (λe=>by injection e with e1 e2;omega)];exact μ.c
 have ξ:Ex w α:=Ex.below (Ex.trans x4 (Ex.trans x6 z)) (Kp.below W.kp (Ex.trans x4 (Ex.trans x6 z)).size λg hg e=>by omega);have s14:=G.size;have s16:=ε.size;refine hR b5 δ (Ex.below (Ex.trans ξ G) (Kp.below ε (Ex.trans ξ G).size λg hg e=>by omega)) (by omega) ⟨⟨by omega,ν,by rw [H,Jl];exact f14 0⟩,?_,v13,?_,?_⟩
 ·rw [H,I4 _ _ _ _ (λe=>by injection e with e1 e2;omega)];exact t14
 ·rw [H];exact Jk _ _ _ κ
 ·exact aB.sub (aB.kp (aB.sub (E:=λg=>α.heap.size<=g/\g< J.heap.size) ι λg hg hd=>⟨hd,hg⟩) ε λg hg e=>by omega) λg hg hd=>⟨by omega,by omega,by omega⟩
end Go.Proofs.YtdecokaadekjnaaGreat
namespace Go.Proofs.YtdecokaadekjnaaGreat
open T
theorem DL {u H:U}(h:Nu u)(Z:Nu H)(ae:AE σ0 u σ0 H):jY u=jY H:=by
 have G:∀y z:Nat,σ0 y=σ0 z->y=z:=λy z e=>by unfold σ0 at e;omega
 have I:∀y,u.Us y↔H.Us y:=λy=>by
  constructor
  ·intro J;obtain⟨z,V,e⟩:=ae.used (λy z _ _ e=>G y z e) (λy z _ _ e=>G y z e) y J;rw [<-G z y e];exact V
  ·intro J;obtain⟨z,V,e⟩:=ae.symm.used (λy z _ _ e=>G y z e) (λy z _ _ e=>G y z e) y J;rw [<-G z y e];exact V
 have W:kG (td u).2=kG (td H).2:=by
  funext c
  rw [J1,pZ h,pZ Z,I]
 have key:=λtk=>Gb (ρ:=ρ0) (ρ':=ρ0) ae h.uq Z.uq (λy z _ _ e=>G y z e) (λy z _ _ e=>G y z e) (λy y' _ _ e=>by rw [G y y' e]) tk
 obtain⟨_,k2,k3,k4⟩:=key (kG (td u).2);rw [ij,ij,<-W,(key (kG (td u).2)).1,k2,k3,k4]
structure mi (t:P):Prop where
 al:t.Al λc=>lt c=true
 nr:t.Nr
 smp:t.smp=true
 len:t.text.length<=300
 size:t.size<=60
 most:bc (num t e0 0).1<=5
 all:cM (num t e0 0).1<=8
 nf:jY (num t e0 0).1=some t.text
theorem Eo {t:P}(h:t.Al λc=>lt c=true):∀y,(num t e0 0).1.Fr y->y< 26:=(rf (p:=t) λc z=>T.Al.free h c z).2.2.1
theorem kB {t:P}(h:t.Al λc=>lt c=true):AE UInt8.toNat t σ0 (num t e0 0).1:=(rf (p:=t) λc z=>T.Al.free h c z).1
theorem ku {t:P}(h:t.Al λc=>lt c=true):Nu (num t e0 0).1:=by
 obtain⟨_,z,G,h4⟩:=rf (p:=t) λc H=>T.Al.free h c H
 exact⟨z,λy I=>G y (T.bz I),h4⟩
theorem Hc.IL {u:U}{s:Tx}{t:P}{v:U}(h:Nu u)(n:Hc u s t v)(hs:u.smp=true):mi t:=by
 have G:Nu v:=⟨n.arr.uq,λy W=>h.fr y ((n.arr.us y).1 W),λx hx=>h.bv x (n.arr.bv x hx)⟩
 have hv:∀y,v.Fr y->(ρ0 y).toNat=σ0 y:=λy W=>eR (G.fr y (n.arr.nr.gY W))
 have ae:AE UInt8.toNat t σ0 v:=n.ae.congr (λ _ _=>rfl) hv;have H:=ku n.al;have I:AE σ0 v σ0 (num t e0 0).1:=ae.symm.trans (kB n.al);have J:∀p:U,eL σ0 p:=λp y z _ _ e=>by unfold σ0 at e;omega
 have V:kG (td v).2=kG (td u).2:=by
  funext c
  rw [J1,pZ G,pZ h,n.arr.us]
 have Z:∀y z:Nat,σ0 y=σ0 z->y=z:=λy z e=>by unfold σ0 at e;omega
 obtain⟨_,k2,k3,k4⟩:=Gb (ρ:=ρ0) (ρ':=ρ0) I G.uq H.uq (λy z _ _ e=>Z y z e) (λy z _ _ e=>Z y z e) (λy y' _ _ e=>by rw [Z y y' e]) (kG (td v).2);refine⟨n.al,AE.nr ae.symm (J v) (eQ t) n.arr.nr,by rw [rm ae];exact n.arr.smp hs,by rw [n.text];exact n.len,n.size,by rw [<-k4,n.arr.most];exact n.most,by rw [<-k3,n.arr.all];exact n.all,?_⟩;have e1:LS v ρ0 (kG (td v).2)=s:=by rw [V,n.arr.ls];exact n.ls.symm
 have hg:cZ s:=⟨n.len,t,n.al,n.text,n.size⟩
 rw [<-DL G H I,ij,e1,JB ⟨⟨by rw [n.arr.most];exact n.most,by rw [n.arr.all];exact n.all⟩,by rw [V,n.arr.bad];exact n.bad,hg⟩,n.text]
section
variable {A B:Type} [DecidableEq A] [DecidableEq B]
inductive Off (A:Type) where
 | tau (p:T A)
 | snd (a b:A) (p:T A)
 | rcv (a x:A) (q:T A) (again:Bool)
def Off.stay:Off A->Off A
 | .rcv a x q _=> .rcv a x q true
 | o=>o
def offs:T A->List (Off A)
 | .tau p=>[.tau p]
 | .snd a b p=>[.snd a b p]
 | .rcv a x p=>[.rcv a x p false]
 | .sum p q=>offs p++offs q
 | .rep p=>(offs p).map Off.stay
 | _=>[]
def wo {X:Type}(l:List X)(i j:Nat):List X:=(l.zipIdx.filter λz=> !(z.2==i)&& !(z.2==j)).map (·.1)
def qk (ρ:A->Nat)(σ:B->Nat):Off A->Off B->Prop
 | .tau p,.tau q=>AE ρ p σ q
 | .snd a b p,.snd c d q=>ρ a=σ c/\ρ b=σ d/\AE ρ p σ q
 | .rcv a x p s,.rcv c y q z=>ρ a=σ c/\(∀v,AE (aE ρ x v) p (aE σ y v) q)/\s=z
 | _,_=>False
inductive kh {X Y:Type} (R:X->Y->Prop):List X->List Y->Prop
 | nil:kh R [] []
 | cons {x y l m}:R x y->kh R l m->kh R (x::l) (y::m)
theorem kh.app {X Y:Type}{R:X->Y->Prop}{l z:List X}{m m':List Y}(h:kh R l m)(k:kh R z m'):kh R (l++z) (m++m'):=by
 induction h with
 | nil=>exact k
 | cons h _ G=>exact .cons h G
theorem kh.map {X Y z G:Type}{R:X->Y->Prop}{S:z->G->Prop}{f:X->z}{g:Y->G}(H:∀x y,R x y->S (f x) (g y)){l:List X}{m:List Y}(h:kh R l m):kh S (l.map f) (m.map g):=by
 induction h with
 | nil=>exact .nil
 | cons h _ I=>exact .cons (H _ _ h) I
theorem kh.len {X Y:Type}{R:X->Y->Prop}{l:List X}{m:List Y}(h:kh R l m):l.length=m.length:=by
 induction h with
 | nil=>rfl
 | cons _ _ z=>simp [z]
theorem kh.get {X Y:Type}{R:X->Y->Prop}{l:List X}{m:List Y}(h:kh R l m):∀{i:Nat} (z:i< l.length) (G:i< m.length),R l[i] m[i]:=by
 induction h with
 | nil=>intro i z;cases z
 | cons h _ H=>
  intro i z G;cases i with
  | zero=>exact h
  | succ i=>simpa using H (by simpa using z) (by simpa using G)
theorem kh.wo {X Y:Type}{R:X->Y->Prop}{l:List X}{m:List Y}(h:kh R l m)(i j:Nat):kh R (wo l i j) (wo m i j):=by
 unfold Go.Proofs.YtdecokaadekjnaaGreat.wo;have:∀k,kh R ((l.zipIdx k).filter (λz=> !(z.2==i)&& !(z.2==j)) |>.map (·.1)) ((m.zipIdx k).filter (λz=> !(z.2==i)&& !(z.2==j)) |>.map (·.1)):=by
  induction h with
  | nil=>intro k;exact .nil
  | cons h _ G=>
   intro k;simp only [List.zipIdx_cons,L3];split
   ·simp only [JA];exact .cons h (G _)
   ·exact G _
 exact this 0
theorem jB:∀{p:T A} {q:T B} {ρ:A->Nat} {σ:B->Nat},AE ρ p σ q->kh (qk ρ σ) (offs p) (offs q):=by
 intro p
 induction p with
 | nil=>intro q ρ σ h;cases q<;>first | exact .nil | cases h
 | par p I=>intro q ρ σ h;cases q<;>first | exact .nil | cases h
 | res x p=>intro q ρ σ h;cases q<;>first | exact .nil | cases h
 | mat a b p=>intro q ρ σ h;cases q<;>first | exact .nil | cases h
 | tau p=>intro q ρ σ h;cases q<;>first | exact .cons h .nil | cases h
 | snd a b p=>intro q ρ σ h;cases q<;>first | exact .cons h .nil | cases h
 | rcv a b p=>intro q ρ σ h;cases q<;>first | exact .cons ⟨h.1,h.2,rfl⟩ .nil | cases h
 | sum p I G H=>
  intro q ρ σ h;cases q<;>first | exact(G h.1).app (H h.2) | cases h
 | rep p G=>
  intro q ρ σ h;cases q<;>try cases h
  refine(G h).map λx y z=>?_
  cases x<;>cases y<;>first | exact z | (exact⟨z.1,z.2.1,rfl⟩) | cases z
end
theorem AE.open:∀{t:P} {u:U} {ρ:Rh},AE UInt8.toNat t (λz=>(ρ z).toNat) u->t.Nr->t.frL.length=u.frL.length/\kh (λp q=>AE UInt8.toNat p (λz=>(asg u.frL t.frL ρ z).toNat) q) t.ths u.ths:=by
 intro t
 induction t with
 | nil=>intro u ρ h n;cases u<;>first | exact⟨rfl,.nil⟩ | cases h
 | snd a b p=>intro u ρ h n;cases u<;>first | exact⟨rfl,.cons h .nil⟩ | cases h
 | rcv a b p=>intro u ρ h n;cases u<;>first | exact⟨rfl,.cons h .nil⟩ | cases h
 | tau p=>intro u ρ h n;cases u<;>first | exact⟨rfl,.cons h .nil⟩ | cases h
 | sum p q=>intro u ρ h n;cases u<;>first | exact⟨rfl,.cons h .nil⟩ | cases h
 | mat a b p=>intro u ρ h n;cases u<;>first | exact⟨rfl,.cons h .nil⟩ | cases h
 | rep p=>intro u ρ h n;cases u<;>first | exact⟨rfl,.cons h .nil⟩ | cases h
 | par p q W J=>
  intro u ρ h n;cases u<;>try cases h
  rename_i p' q' G h2;have Z:q.frL=[]:=by
   rcases n.1.2 with h | h
   ·exact iu h
   ·cases q<;>first | rfl | (cases h;done)
  obtain⟨H,I⟩:=J h2 n.2.2;have V:q'.frL=[]:=by rw [Z]at H;exact Jv H.symm
  rw [Z,V]at I;exact⟨rfl,.cons G I⟩
 | res x p W=>
  intro u ρ h n;cases u<;>try cases h
  rename_i y q;have G:=h x.toNat;have e1:aE UInt8.toNat x x.toNat=UInt8.toNat:=by funext c;unfold aE;split<;>simp_all
  have e2:aE (λz=>(ρ z).toNat) y x.toNat=λz=>(aE ρ y x z).toNat:=by funext z;unfold aE;split<;>rfl
  rw [e1,e2]at G;obtain⟨H,I⟩:=W G n.2;exact⟨by simp [frL,H],I⟩
theorem AE.rE {D:Nat->Prop}{f:Nat->Nat}:∀{q:U} {σ τ:Nat->Nat},(∀z,q.Fr z->D z/\σ z=τ (f z))->(∀x∈BV q,D x/\∀z,D z->z≠x->f z≠f x)->AE σ q τ (q.map f)
 | .nil,_,_,_,_=>trivial
 | .snd a b p,σ,τ,h,k=>⟨(h a (.inl rfl)).2,(h b (.inr (.inl rfl))).2,AE.rE (λz G=>h z (.inr (.inr G))) k⟩
 | .mat a b p,σ,τ,h,k=>⟨(h a (.inl rfl)).2,(h b (.inr (.inl rfl))).2,AE.rE (λz G=>h z (.inr (.inr G))) k⟩
 | .tau p,σ,τ,h,k=>AE.rE (q:=p) h k
 | .rep p,σ,τ,h,k=>AE.rE (q:=p) h k
 | .sum p q,σ,τ,h,k=>⟨AE.rE (λz G=>h z (.inl G)) λx I=>k x (JF _ I),AE.rE (λz G=>h z (.inr G)) λx I=>k x (Jx _ I)⟩
 | .par p q,σ,τ,h,k=>⟨AE.rE (λz G=>h z (.inl G)) λx I=>k x (JF _ I),AE.rE (λz G=>h z (.inr G)) λx I=>k x (Jx _ I)⟩
 | .rcv a x p,σ,τ,h,k=>by
  have J:=k x (JK ..);refine⟨(h a (.inl rfl)).2,λv=>AE.rE (D:=D) (λz G=>?_) λy V=>k y (Jj _ V)⟩;by_cases e:z=x
  ·subst e;exact⟨J.1,by simp [aE]⟩
  ·have H:=h z (.inr ⟨e,G⟩);have :=J.2 z H.1 e;refine⟨H.1,?_⟩;simp only [aE,Jn e,Jn this];exact H.2
 | .res x p,σ,τ,h,k=>by
  have J:=k x (JK ..);refine λv=>AE.rE (D:=D) (λz G=>?_) λy V=>k y (Jj _ V)
  by_cases e:z=x
  ·subst e;exact⟨J.1,by simp [aE]⟩
  ·have H:=h z ⟨e,G⟩;have :=J.2 z H.1 e;refine⟨H.1,?_⟩;simp only [aE,Jn e,Jn this];exact H.2
theorem fP (f:Nat->Nat):∀u:U,BV (u.map f)=(BV u).map f
 | .nil=>rfl
 | .snd a b p=>fP f p
 | .mat a b p=>fP f p
 | .tau p=>fP f p
 | .rep p=>fP f p
 | .rcv a x p=>by simp only [T.map,BV,fP f p,JA]
 | .res x p=>by simp only [T.map,BV,fP f p,JA]
 | .sum p q=>by simp only [T.map,BV,fP f p,fP f q,JY]
 | .par p q=>by simp only [T.map,BV,fP f p,fP f q,JY]
def Off.tm {A:Type}:Off A->T A
 | .tau p=> .tau p
 | .snd a b p=> .snd a b p
 | .rcv a x q _=> .rcv a x q
structure Sub {A:Type}(s t:T A):Prop where
 smp:t.smp=true->s.smp=true
 nr:t.Nr->s.Nr
 fr:∀z,s.Fr z->t.Fr z
 rd:s.rd<=t.rd
 ow:s.ow<=t.ow
 size:s.size<=t.size
 al:∀D:A->Prop,t.Al D->s.Al D
theorem Sub.refl {A:Type}(t:T A):Sub t t:=⟨id,id,λ _=>id,Jc _,Jc _,Jc _,λ _=>id⟩
theorem aV {A:Type}:∀{t:T A},t.smp=true->∀o∈offs t,Sub o.tm t/\(∀a x q,o= .rcv a x q true->t= .rep (.rcv a x q)):=by
 intro t
 induction t with
 | nil=>intro _ o h;cases h
 | par p q=>intro _ o h;cases h
 | res x p=>intro _ o h;cases h
 | mat a b p=>intro _ o h;cases h
 | tau p=>intro _ o h;rw [offs,Jg]at h;subst h;exact⟨Sub.refl _,λ _ _ _ h=>by cases h⟩
 | snd a b p=>intro _ o h;rw [offs,Jg]at h;subst h;exact⟨Sub.refl _,λ _ _ _ h=>by cases h⟩
 | rcv a b p=>intro _ o h;rw [offs,Jg]at h;subst h;exact⟨Sub.refl _,λ _ _ _ h=>by cases h⟩
 | sum p q Z V=>
  intro G o h;simp only [smp,IZ]at G;rw [offs,Jf]at h;rcases h with h | h
  ·obtain⟨k,kr⟩:=Z G.2.1 o h;refine⟨⟨λ _=>k.smp G.2.1,λn=>k.nr n.2.1,λz H=> .inl (k.fr z H),J0 k.rd (Nat.le_max_left _ _),by have :=k.ow;simp only [ow];omega,by have :=k.size;simp only [size];omega,λD I=>k.al D I.1⟩,λa x J e=>?_⟩;have W:=kr a x J e;rw [W]at G;simp [gp]at G
  ·obtain⟨k,kr⟩:=V G.2.2 o h;refine⟨⟨λ _=>k.smp G.2.2,λn=>k.nr n.2.2,λz H=> .inr (k.fr z H),J0 k.rd (Nat.le_max_right _ _),by have :=k.ow;simp only [ow];omega,by have :=k.size;simp only [size];omega,λD I=>k.al D I.2⟩,λa x J e=>?_⟩;have W:=kr a x J e;rw [W]at G;simp [gp]at G
 | rep p Z=>
  intro G o h;simp only [smp,IZ]at G;cases p<;>try (simp [isR]at G)
  rename_i a x q;simp only [offs,JA,KV,Jg,Off.stay]at h;subst h;refine⟨⟨λh=>?_,λn=>n.2,λz H=>H,Jc _,Jc _,by simp only [Off.tm,size];omega,λD I=>I⟩,λa' x' J e=>?_⟩
  ·simp only [smp,IZ]at h;exact h.2
  ·cases e;rfl
theorem gh:∀{t:U},∀o∈offs t,(BV o.tm).Sublist (BV t):=by
 intro t
 induction t with
 | nil=>intro o h;cases h
 | par p q=>intro o h;cases h
 | res x p=>intro o h;cases h
 | mat a b p=>intro o h;cases h
 | tau p=>intro o h;rw [offs,Jg]at h;subst h;exact J8 _
 | snd a b p=>intro o h;rw [offs,Jg]at h;subst h;exact J8 _
 | rcv a b p=>intro o h;rw [offs,Jg]at h;subst h;exact J8 _
 | sum p q z G=>
  intro o h;rw [offs,Jf]at h;rcases h with h | h
  ·exact(z o h).trans (K6 _ _)
  ·exact(G o h).trans (Kv _ _)
 | rep p z=>
  intro o h;obtain⟨H,I,rfl⟩:=JL.1 h;have :=z H I;cases H<;>exact this
section
variable {X:Type}
def jZ (P:Nat->Bool)(l:List X)(k:Nat):List X:=((l.zipIdx k).filter λz=> !P z.2).map (·.1)
theorem jt (P:Nat->Bool)(k:Nat):jZ P ([]:List X) k=[]:=rfl
theorem cd (P:Nat->Bool)(x:X)(l:List X)(k:Nat):jZ P (x::l) k=if P k then jZ P l (k+1)else x::jZ P l (k+1):=by
 unfold jZ;simp only [List.zipIdx_cons,L3];cases P k<;>simp
theorem lM {P Q:Nat->Bool}:∀{l:List X} {k:Nat},(∀i,k<=i->P i=Q i)->jZ P l k=jZ Q l k
 | [],_,_=>rfl
 | x::l,k,h=>by rw [cd,cd,h k (Jc _),lM (l:=l) λi z=>h i (by omega)]
theorem Aj {P:Nat->Bool}:∀{l:List X} {k:Nat},(∀i,k<=i->P i=false)->jZ P l k=l
 | [],_,_=>rfl
 | x::l,k,h=>by rw [cd,h k (Jc _),Aj (l:=l) λi z=>h i (by omega)];rfl
theorem uW:∀(l:List X) (k i:Nat) (h:i< l.length),l.Perm (l[i]::jZ (λn=>n==k+i) l k)
 | [],_,_,h=>by cases h
 | x::l,k,0,h=>by
  rw [cd,JB (by simp),Aj λi z=>by simp;omega];exact J7 _
 | x::l,k,i+1,h=>by
  rw [cd,Jn (by simp)];have :=uW l (k+1) i (by simpa using h);rw [show k+1+i=k+(i+1) by omega]at this;exact(this.cons x).trans (List.Perm.swap _ _ _)
theorem vy:∀(l:List X) (k i j:Nat) (G:i< l.length) (z:j< l.length),i< j->l.Perm (l[i]::l[j]::jZ (λn=>n==k+i||n==k+j) l k)
 | [],_,_,_,h,_,_=>by cases h
 | x::l,k,0,j+1,_,z,_=>by
  rw [cd,JB (by simp)];have :=uW l (k+1) j (by simpa using z);rw [lM (P:=λn=>n==k+0||n==k+(j+1)) (Q:=λn=>n==k+1+j) λn I=>by
   rw [J1];simp only [Kt,Mn];omega]
  exact this.cons x
 | x::l,k,i+1,j+1,G,z,H=>by
  rw [cd,Jn (by simp)];have :=vy l (k+1) i j (by simpa using G) (by simpa using z) (by omega);rw [show k+1+i=k+(i+1) by omega,show k+1+j=k+(j+1) by omega]at this;exact((this.cons x).trans (List.Perm.swap _ _ _)).trans ((List.Perm.swap _ _ _).cons _)
theorem zg (l:List X)(i j:Nat):wo l i j=jZ (λn=>n==i||n==j) l 0:=by
 unfold wo jZ
 congr 2
 funext z
 simp
theorem zt (l:List X)(i:Nat)(h:i< l.length):l.Perm (l[i]::wo l i i):=by
 have :=uW l 0 i h;rw [zg,lM (Q:=λn=>n==0+i) λn _=>by simp];exact this
theorem za (l:List X)(i j:Nat)(G:i< l.length)(H:j< l.length)(z:i≠j):l.Perm (l[i]::l[j]::wo l i j):=by
 rw [zg];rcases Nat.lt_or_gt_of_ne z with h | h
 ·have :=vy l 0 i j G H h;simpa using this
 ·have :=vy l 0 j i H G h;rw [lM (P:=λn=>n==i||n==j) (Q:=λn=>n==0+j||n==0+i) λn _=>by simp [Bool.or_comm]];exact this.trans (List.Perm.swap _ _ _)
theorem E' (l:List X)(i j:Nat)(G:i< l.length)(H:j< l.length)(z:i≠j):(wo l i i).Perm (wo l i j++[l[j]]):=by
 have I:=zt l i G;have J:=za l i j G H z;exact((Mf _).1 (I.symm.trans J)).trans (K1 (l₁:=[l[j]]) (l₂:=wo l i j))
theorem ll {l:List X}{i j:Nat}{x:X}(h:x∈wo l i j):x∈l:=by
 unfold wo at h;obtain⟨z,G,rfl⟩:=JL.1 h;have :=(Ll.1 G).1;rw [List.mem_zipIdx_iff_getElem?]at this;exact KX this
end
structure D1 (N:Nat)(q:U)(x b:Nat)(f:Nat->Nat):Prop where
 fx:f x=b
 fo:∀z,z≠x->z∉BV q->f z=z
 fb:∀z∈BV q,N< f z
 fi:∀z∈BV q,∀z'∈BV q,f z=f z'->z=z'
theorem D1.ae {N:Nat}{q:U}{x b:Nat}{f:Nat->Nat}(h:D1 N q x b f)(J:Uq q)(hx:x∉BV q)(V:∀z,q.Fr z->z<=N)(hb:b<=N)(W:∀z∈BV q,z<=N)(σ:Nat->Nat):AE (aE σ x (σ b)) q σ (q.map f):=by
 refine AE.rE (D:=λz=>q.Fr z\/z∈BV q) (λz G=>⟨.inl G,?_⟩) λy H=>⟨.inr H,λz G I=>?_⟩
 ·by_cases e:z=x
  ·subst e;rw [h.fx,cV]
  ·rw [bK _ _ e,h.fo z e λhb=>J.nf z hb G]
 ·have Z:=h.fb y H;rcases G with G | G
  ·by_cases e:z=x
   ·rw [e,h.fx];omega
   ·rw [h.fo z e λhb=>J.nf z hb G];have :=V z G;omega
  ·exact λe=>I (h.fi z G y H e)
theorem D1.fr {N:Nat}{q:U}{x b:Nat}{f:Nat->Nat}(h:D1 N q x b f)(W:Uq q):∀z,(q.map f).Fr z->z=b\/(z≠x/\q.Fr z):=by
 have key:∀(q:U) (z:Nat),(q.map f).Fr z->∃y,q.Fr y/\f y=z:=by
  intro q
  induction q with
  | nil=>intro z h;exact h.elim
  | snd a b p I=>
   intro z h;rcases h with h | h | h
   ·exact⟨a,.inl rfl,h.symm⟩
   ·exact⟨b,.inr (.inl rfl),h.symm⟩
   ·obtain⟨y,H,G⟩:=I z h;exact⟨y,.inr (.inr H),G⟩
  | mat a b p I=>
   intro z h;rcases h with h | h | h
   ·exact⟨a,.inl rfl,h.symm⟩
   ·exact⟨b,.inr (.inl rfl),h.symm⟩
   ·obtain⟨y,H,G⟩:=I z h;exact⟨y,.inr (.inr H),G⟩
  | rcv a x p I=>
   intro z h;rcases h with h | ⟨h,V⟩
   ·exact⟨a,.inl rfl,h.symm⟩
   ·obtain⟨y,H,G⟩:=I z V;exact⟨y,.inr ⟨λe=>h (by rw [<-G,e]),H⟩,G⟩
  | res x p I=>
   intro z ⟨h,V⟩;obtain⟨y,H,G⟩:=I z V;exact⟨y,⟨λe=>h (by rw [<-G,e]),H⟩,G⟩
  | tau p I=>exact I
  | rep p I=>exact I
  | sum p q I J=>
   intro z h;rcases h with h | h
   ·obtain⟨y,H,G⟩:=I z h;exact⟨y,.inl H,G⟩
   ·obtain⟨y,H,G⟩:=J z h;exact⟨y,.inr H,G⟩
  | par p q I J=>
   intro z h;rcases h with h | h
   ·obtain⟨y,H,G⟩:=I z h;exact⟨y,.inl H,G⟩
   ·obtain⟨y,H,G⟩:=J z h;exact⟨y,.inr H,G⟩
 intro z Z;obtain⟨y,H,G⟩:=key q z Z;by_cases e:y=x
 ·left;rw [<-G,e,h.fx]
 ·right;rw [h.fo y e λhb=>W.nf y hb H]at G;subst G;exact⟨e,H⟩
end Go.Proofs.YtdecokaadekjnaaGreat
namespace Go.Proofs.YtdecokaadekjnaaGreat
open Go Go.RowKit
def jn (w:World)(r:Nat)(F:Nat->Nat):Prop:=∃mm,IsMap w r (.int .i64) mm/\∀x:Nat,mm (iv x)=some (iv (F x))\/(mm (iv x)=none/\F x=x)
theorem eF {w w':World}{r:Nat}{d:TypeDesc}{m:Value->Option Value}(h:IsMap w r d m)(e:w'.heap[r]?=w.heap[r]?):IsMap w' r d m:=by
 obtain⟨es,cl,z,G⟩:=h;exact⟨es,cl,by rw [e];exact z,G⟩
theorem fu {w:World}{r:Nat}{d:TypeDesc}{m:Value->Option Value}(h:IsMap w r d m):r< w.heap.size:=by
 obtain⟨es,cl,z,G⟩:=h;exact(JM.1 z).1
theorem jn.lt {w:World}{r:Nat}{F:Nat->Nat}(h:jn w r F):r< w.heap.size:=by
 obtain⟨mm,z,_⟩:=h;exact fu z
theorem jn.kp {w w':World}{r:Nat}{F:Nat->Nat}{S:Nat->Prop}(h:jn w r F)(k:Kp w w' S)(z:¬S r):jn w' r F:=by
 have G:=h.lt;obtain⟨mm,H,I⟩:=h;exact⟨mm,eF H (k.block r G z),I⟩
theorem rN {w:World}{r:Nat}{mm:Value->Option Value}{F:Nat->Nat}(G:∀x:Nat,mm (iv x)=some (iv (F x))\/(mm (iv x)=none/\F x=x)){x y:Nat}(h:IsMap w r (.int .i64) (eo mm (iv x) (iv y))):jn w r (aE F x y):=by
 refine⟨_,h,λz=>?_⟩;unfold eo aE;by_cases e:z=x
 ·subst e;left;simp
 ·have:iv z≠iv x:=λH=>e (by injection H with _ I;omega)
  simp only [Jn e,Jn this];exact G z
structure Rn (n n':Nat)(xs:List Nat)(F F':Nat->Nat):Prop where
 le:n<=n'
 len:n'<=n+xs.length
 out:∀x,x∉xs->F' x=F x
 rng:∀x∈xs,n+100< F' x/\F' x<=n'+100
 inj:∀x∈xs,∀y∈xs,F' x=F' y->x=y
theorem Rn.refl (n:Nat)(F:Nat->Nat):Rn n n [] F F:=⟨Jc _,by simp,λ _ _=>rfl,λ _ h=>(by cases h),λ _ h=>(by cases h)⟩
theorem Rn.one (n x:Nat)(F:Nat->Nat):Rn n (n+1) [x] F (aE F x (n+101)):=by
 refine⟨by omega,by simp,λy G=>Jn (by simpa using G),λy G=>?_,λy G z H _=>?_⟩
 ·cases Jg.1 G;simp only [aE,KU];omega
 ·cases Jg.1 G;cases Jg.1 H;rfl
theorem Rn.app {n m p:Nat}{xs W:List Nat}{F G H:Nat->Nat}(h:Rn n m xs F G)(k:Rn m p W G H)(hd:∀x∈xs,x∉W):Rn n p (xs++W) F H:=by
 have J:∀x∈xs,H x=G x:=λx J=>k.out x (hd x J)
 refine⟨J0 h.le k.le,by have :=h.len;have :=k.len;rw [I'];omega,λx z=>?_,λx z=>?_,λx z y Z e=>?_⟩
 ·rw [Jf,Mp]at z;rw [k.out x z.2,h.out x z.1]
 ·have :=h.le;have :=k.le;rcases Jf.1 z with I | I
  ·rw [J x I];have :=h.rng x I;omega
  ·have :=k.rng x I;omega
 ·rcases Jf.1 z with I | I<;>rcases Jf.1 Z with V | V
  ·rw [J x I,J y V]at e;exact h.inj x I y V e
  ·rw [J x I]at e;have :=h.rng x I;have :=k.rng y V;omega
  ·rw [J y V]at e;have :=h.rng y V;have :=k.rng x I;omega
  ·exact k.inj x I y V e
structure Kq (m r:Nat)(w w':World):Prop where
 kp:Kp w w' λg=>g=m\/g=r
 ce:∀j,j≠0->w'.cell? ⟨m,j,none⟩=w.cell? ⟨m,j,none⟩
 fz:∀j,w'.frozen? ⟨m,j,none⟩=w.frozen? ⟨m,j,none⟩
section
variable {m r:Nat} {w w0 w' w'':World}
theorem Kq.size (h:Kq m r w w'):w.heap.size<=w'.heap.size:=h.kp.size
theorem Kq.trans (h:Kq m r w w')(k:Kq m r w' w''):Kq m r w w'':=⟨Kp.trans h.kp k.kp λ _ _ h=>h,λj z=>(k.ce j z).trans (h.ce j z),λj=>(k.fz j).trans (h.fz j)⟩
theorem Kq.refl (m r:Nat)(w:World):Kq m r w w:=⟨Kp.ah (Ex.refl w) _,λ _ _=>rfl,λ _=>rfl⟩
theorem Kq.out {S:Nat->Prop}(h:Kq m r w0 w)(k:Kp w w' S)(G:∀g,g< w0.heap.size->S g->g=r/\g≠m)(hm:m< w0.heap.size):Kq m r w0 w':=by
 have e:=k.block m (Jt hm h.kp.size) λz=>(G m hm z).2 rfl
 exact⟨Kp.trans h.kp k λg H z=> .inr (G g H z).1,λj I=>by rw [IX (w:=w) e];exact h.ce j I,λj=>by rw [Jz (w:=w) e];exact h.fz j⟩
theorem Kq.ex (h:Kq m r w0 w)(x:Ex w w')(hm:m< w0.heap.size):Kq m r w0 w':=h.out (Kp.ah x λ _=>False) (λ _ _ h=>h.elim) hm
theorem Kq.km (h:Kq m r w0 w)(k:Km m w w'):Kq m r w0 w':=h.trans ⟨Kp.mono (λ _ e=> .inl e) k.kp,k.ce,k.fz⟩
theorem Kq.blk (h:Kq m r w0 w)(k:cX w w' r)(hm:m< w0.heap.size)(hr:m≠r):Kq m r w0 w':=
 h.out (S:=λg=>g=r) ⟨k.os,k.tape,k.output,by rw [k.size];exact Jc _,λg _ z=>k.block g z⟩ (λg _ e=>⟨e,λh=>hr (h.symm.trans e)⟩) hm
end
structure CI (w w':World)(m r b4 b6 n n1:Nat)(xs:List Nat)(F F1:Nat->Nat)(O:List Nat)(L:Lv)(ts:List Value)(M:Nat->Prop):Prop where
 kq:Kq m r w w'
 mc:Mk w' m n1
 mf:jn w' r F1
 rn:Rn n n1 xs F F1
 c4:w'.cell? ⟨b4,0,none⟩=some (.map (some r))
 l4:b4< w'.heap.size
 h4:w.heap.size<=b4
 m4:¬M b4
 bd:jW w.heap.size w' b6 O ts M
 th:af (λg=>(w.heap.size<=g/\¬M g/\g≠b4)/\g< w'.heap.size) w' L ts
 lm:m< w.heap.size
 lr:r< w.heap.size
 ne:m≠r
theorem yE {w:World}{b4 r x:Nat}{F:Nat->Nat}(c4:w.cell? ⟨b4,0,none⟩=some (.map (some r)))(mf:jn w r F){R:Int->World->Prop}(z:R (F x:Int) w):
  Calls Tryz.prog 239 #[iv x,ptr b4] w (an [.i] R):=by
 refine jQ x (ptr b4) w R ?_;obtain⟨mm,G,H⟩:=mf;refine⟨b4,0,rfl,_,c4,r,mm,rfl,G,?_⟩;rcases H x with h | ⟨h,e⟩
 ·exact⟨F x,true,.inl ⟨rfl,h⟩,λ _=>z,λh=>(by cases h)⟩
 ·exact⟨0,false,.inr ⟨rfl,h,rfl⟩,λh=>(by cases h),λ _=>by rw [e]at z;exact z⟩
theorem jW.IA {B:Nat}{w w1 w2:World}{b:Nat}{o Z:List Nat}{ts:List Value}{M:Nat->Prop}(h:jW B w b o ts M){vo v':Value}(J:w.cell? ⟨b,0,none⟩=some vo)(k:Kp w w1 λg=>vo.ownBlock=some g)(ho:aI 3 B w1 v' (Z.map iv))
  (hv:∀g,v'.ownBlock=some g->vo.ownBlock=some g\/w.heap.size<=g) (hw:w2=w1.setCell ⟨b,0,none⟩ v'):jW B w2 b Z ts (λg=>M g\/v'.ownBlock=some g)/\Kp w w2 M:=by
 obtain⟨h1,hle,h3,hr,h4,V,vt,h5,h6,h7,h8,h9,h10,G⟩:=h;have:V=vo:=JO (h5.symm.trans J);subst this;have s1:=k.size;have I:Kr b w1 w2:=hw▸Kr.set w1 0 v';have W:=k.block b h1 λe=>(h9 b e).2 rfl
 have H:∀g,v'.ownBlock=some g->g≠b:=λg z=>(hv g z).elim (λe=>(h9 g e).2) λe=>by omega
 have kM:Kp w w2 M:=Kp.trans (Kp.mono (λg e=>(h9 g e).1) k) I λg _ e=>by rw [e];exact h3
 have s2:=I.size;refine⟨⟨by omega,hle,.inl h3,λg z=>?_,λj=>?_,v',vt,?_,?_,ho.kp I H,?_,λg z=>⟨.inr z,H g z⟩,λg z=>⟨.inl (h10 g z).1,(h10 g z).2⟩,λg z e=>?_⟩,kM⟩
 ·rcases z with z | z
  ·have :=hr g z;omega
  ·have :=ho.block g z;omega
 ·rw [hw,Jl,Jz (w:=w) W];exact h4 j
 ·rw [hw];exact Jk _ _ _ (by rw [IX (w:=w) W];exact h5)
 ·rw [hw,I4 _ _ _ _ (by simp),IX (w:=w) W];exact h6
 ·exact(h8.kp k λg z e=>G g e z).kp I λg z=>(h10 g z).2
 ·rcases hv g z with h | h
  ·exact G g h e
  ·have :=(h8.block g e).2;omega
theorem jW.HY {B:Nat}{w w1 w2:World}{b:Nat}{o:List Nat}{ts G:List Value}{M:Nat->Prop}(h:jW B w b o ts M){vt v':Value}(V:w.cell? ⟨b,1,none⟩=some vt)(k:Kp w w1 λg=>vt.ownBlock=some g)(ho:aI 156 B w1 v' G)
  (hv:∀g,v'.ownBlock=some g->vt.ownBlock=some g\/w.heap.size<=g) (hw:w2=w1.setCell ⟨b,1,none⟩ v'):jW B w2 b o G (λg=>M g\/v'.ownBlock=some g)/\Kp w w2 M:=by
 obtain⟨h1,hle,h3,hr,h4,vo,W,h5,h6,h7,h8,h9,h10,H⟩:=h;have:W=vt:=JO (h6.symm.trans V);subst this;have s1:=k.size;have J:Kr b w1 w2:=hw▸Kr.set w1 1 v';have Z:=k.block b h1 λe=>(h10 b e).2 rfl
 have I:∀g,v'.ownBlock=some g->g≠b:=λg z=>(hv g z).elim (λe=>(h10 g e).2) λe=>by omega
 have kM:Kp w w2 M:=Kp.trans (Kp.mono (λg e=>(h10 g e).1) k) J λg _ e=>by rw [e];exact h3
 have s2:=J.size;refine⟨⟨by omega,hle,.inl h3,λg z=>?_,λj=>?_,vo,v',?_,?_,?_,ho.kp J I,λg z=>⟨.inl (h9 g z).1,(h9 g z).2⟩,λg z=>⟨.inr z,I g z⟩,λg z e=>?_⟩,kM⟩
 ·rcases z with z | z
  ·have :=hr g z;omega
  ·have :=ho.block g z;omega
 ·rw [hw,Jl,Jz (w:=w) Z];exact h4 j
 ·rw [hw,I4 _ _ _ _ (by simp),IX (w:=w) Z];exact h5
 ·rw [hw];exact Jk _ _ _ (by rw [IX (w:=w) Z];exact h6)
 ·exact(h7.kp k λg z e=>H g z e).kp J λg z=>(h9 g z).2
 ·rcases hv g e with h | h
  ·exact H g z h
  ·have :=(h7.block g z).2;omega
theorem cF {f g:Nat->Nat}:∀{l:Lv},(∀x,(x∈l.bvs\/l.fh x)->f x=g x)->l.map f=l.map g
 | .nil,_=>rfl
 | .thr k a b o r n,h=>by
  have hr:=cF (f:=f) (g:=g) (l:=r) λx z=>h x (by
   rcases z with z | z
   ·left;simp [Lv.bvs,z]
   ·by_cases G:x∈o
    ·left;simp [Lv.bvs,G]
    ·by_cases hb:k= .r/\x=b
     ·left;simp [Lv.bvs,hb.1,hb.2]
     ·right;exact .inr (.inr (.inl ⟨G,hb,z⟩)))
  have H:=cF (f:=f) (g:=g) (l:=n) λx z=>h x (by
   rcases z with z | z
   ·left;simp [Lv.bvs,z]
   ·right;exact .inr (.inr (.inr z)))
  have G:o.map f=o.map g:=Kg λx z=>h x (.inl (by simp [Lv.bvs,z]))
  simp only [Lv.map,hr,H,G];cases k<;>simp only [reduceCtorEq,or_self,or_true,true_or,LF,KU]
  ·rw [h a (.inr (.inl ⟨.inl rfl,.inl rfl⟩)),h b (.inr (.inl ⟨.inl rfl,.inr rfl⟩))]
  ·rw [h a (.inr (.inr (.inl ⟨rfl,rfl⟩))),h b (.inl (by simp [Lv.bvs]))]
  ·rw [h a (.inr (.inl ⟨.inr rfl,.inl rfl⟩)),h b (.inr (.inl ⟨.inr rfl,.inr rfl⟩))]
 | .sum I n,h=>by
  have hr:=cF (f:=f) (g:=g) (l:=I) λx z=>h x (by
   rcases z with z | z
   ·left;simp [Lv.bvs,z]
   ·right;exact .inl z)
  have H:=cF (f:=f) (g:=g) (l:=n) λx z=>h x (by
   rcases z with z | z
   ·left;simp [Lv.bvs,z]
   ·right;exact .inr z)
  simp only [Lv.map,hr,H]
 | .part o q n,h=>by
  have hr:=cF (f:=f) (g:=g) (l:=q) λx z=>h x (by
   rcases z with z | z
   ·left;simp [Lv.bvs,z]
   ·by_cases G:x∈o
    ·left;simp [Lv.bvs,G]
    ·right;exact .inl ⟨G,z⟩)
  have H:=cF (f:=f) (g:=g) (l:=n) λx z=>h x (by
   rcases z with z | z
   ·left;simp [Lv.bvs,z]
   ·right;exact .inr z)
  have G:o.map f=o.map g:=Kg λx z=>h x (.inl (by simp [Lv.bvs,z]))
  simp only [Lv.map,hr,H,G]
theorem ox {x:Nat}:∀(l:Lv) (i:Nat),(l.take i).fh x->l.fh x
 | _,0,h=>h.elim
 | .nil,i+1,h=>h
 | .thr k a b o r n,i+1,h=>by
  rcases h with h | h | h | h
  ·exact .inl h
  ·exact .inr (.inl h)
  ·exact .inr (.inr (.inl h))
  ·exact .inr (.inr (.inr (ox n i h)))
 | .sum z n,i+1,h=>h.elim .inl λh=> .inr (ox n i h)
 | .part o q n,i+1,h=>h.elim .inl λh=> .inr (ox n i h)
def GK (k:Nat):Prop:=∀{D:Nat->Prop} {w:World} {v:Value} {o:List Nat} {l:Lv} {m r n:Nat} {F:Nat->Nat} {R:Value->World->Prop},l.sz<=k->l.sh true=true->fS D w v o (af D w l)->(∀g,D g->¬(g=m\/g=r))->tr o l->Mk w m n->jn w r F->m≠r->n+o.length+l.bvs.length<=4294967296->o.length+l.tot<=4294967296->
 (∀v' w' F' n',Kq m r w w'->Mk w' m n'->jn w' r F'->Rn n n' (o++l.bvs) F F'->aB (yQ w) w' (o.map F',l.map F') v'->R v' w')->Calls Tryz.prog 217 #[ptr m,v,.map (some r)] w (an [.v] R)
theorem Av (f:Nat->Nat):∀l:Lv,(l.map f).len=l.len:=by intro l;induction l<;>simp_all [Lv.map,Lv.len]
theorem C1:∀(l:Lv) (i:Nat),(l.take i).bvs.Sublist l.bvs:=by
 intro l
 induction l with
 | nil=>intro i;cases i<;>simp [Lv.take,Lv.bvs]
 | thr k a b o r n _ z=>
  intro i;cases i with
  | zero=>simp [Lv.take,Lv.bvs]
  | succ i=>exact KJ (J8 _) (KJ (J8 _) (KJ (J8 _) (z i)))
 | sum G n _ z=>
  intro i;cases i with
  | zero=>simp [Lv.take,Lv.bvs]
  | succ i=>exact KJ (J8 _) (z i)
 | part o q n _ z=>
  intro i;cases i with
  | zero=>simp [Lv.take,Lv.bvs]
  | succ i=>exact KJ (J8 _) (KJ (J8 _) (z i))
theorem DZ {o:List Nat}{l e:Lv}{i:Nat}(h:tr o l)(I:l.take (i+1)=(l.take i).app e):(∀x∈o++(l.take i).bvs,x∉e.bvs)/\(l.take i).bvs.length+e.bvs.length<=l.bvs.length:=by
 have z:((l.take i).bvs++e.bvs).Sublist l.bvs:=by rw [<-Lv.dh,<-I];exact C1 l _
 have G:=JG.1 h.nd;refine⟨λx J H=>?_,by have :=z.length_le;rwa [I']at this⟩;rcases Jf.1 J with h | h
 ·exact G.2.2 x h x (z.subset (Jx _ H)) rfl
 ·exact(JG.1 (G.2.1.sublist z)).2.2 x h x H rfl
theorem wX (k:Nat)(ih:∀j,j< k->GK j):GK k:=by
 intro D w v o l m r n F R hn hsh h hD huq hmk hmf ο hnn htot hR;refine kE (ptr m) v (.map (some r)) w R ?_;refine⟨rfl,λb4 w5 hb4 hw5 b6 w7 hb6 hw7=>?_⟩;have x5:Ex w w5:=hw5▸Ex.alloc w _;have x57:Ex w5 w7:=hw7▸Ex.alloc w5 _;have x7:=Ex.trans x5 x57;have s5:w5.heap.size=w.heap.size+1:=by rw [hw5,size_alloc]
 have s7:w7.heap.size=w5.heap.size+1:=by rw [hw7,size_alloc]
 have hlm:=hmk.lt;have hlr:=hmf.lt;obtain⟨bl,vo,vt,ts,rfl,h2,h3,h4,h5,h6,h7,h8⟩:=h;obtain⟨ao,capo,hvo⟩:=h6.slice;rw [Ju]at hvo;obtain⟨at_,capt,hvt⟩:=h7.slice;have hlen:=h8.len;have hel:=Lv.cK l;have hlt:=bS l;have nd:=huq.nd;have ndo:=JG.1 nd;have cbl:∀{w1:World},Kq m r w w1->∀{j:Nat} {u:Value},w.cell? ⟨bl,j,none⟩=some u->w1.cell? ⟨bl,j,none⟩=some u:=λx j u hu=>by
  rw [IX (w:=w) (x.kp.block bl h3 (hD bl h2))];exact hu
 have bd7:jW w.heap.size w7 b6 [] [] λg=>g=b6:=jW.new (by omega) hb6 hw7
 have ci7:CI w w7 m r b4 b6 n n [] F F [] .nil [] λg=>g=b6:=
  ⟨(Kq.refl m r w).ex x7 hlm,hmk.ex x7,hmf.kp (Kp.ah x7 λ _=>False) (λh=>h),Rn.refl n F,by rw [x57.cell (show b4< _ by omega),hw5,hb4];exact aa rfl,by omega,by omega,by omega,bd7,rfl,hlm,hlr,ο⟩
 refine⟨bl,0,rfl,vo,cbl ci7.kq h4,ao,_,capo,hvo,λx w'=>∃(j n1:Nat) (F1:Nat->Nat) (M:Nat->Prop),x=j/\j<=o.length/\CI w w' m r b4 b6 n n1 (o.take j) F F1 ((o.take j).map F1) .nil [] M,λx _=>(o.length - x).toNat,⟨0,n,F,_,rfl,JS _,ci7⟩,λx w17 hI=>?_⟩;obtain⟨j,n1,F1,M,rfl,hj,ci⟩:=hI;refine⟨λhlt0=>?_,λhge=>?_⟩
 ·
  have hjo:j< o.length:=by simp only [I0]at hlt0;omega
  obtain⟨bo,oo,ς,hvo',hco⟩:∃bo oo ς,vo= .slice (some ⟨bo,oo,none⟩) o.length ς/\w17.cell? ⟨bo,oo+j,none⟩=some (iv o[j]):=by
   rcases h6 with⟨_,h0⟩ | ⟨bo,oo,ς,e,hbD,hb',υ⟩
   ·rw [Lu]at h0;rw [h0]at hjo;simp at hjo
   ·rw [Ju]at e;exact⟨bo,oo,ς,e,by rw [IX (w:=w) (ci.kq.kp.block bo hb' (hD bo hbD))];exact υ j _ (by simp [hjo])⟩
  refine⟨bo,oo,_,ς,hvo',by omega,by omega,(o[j]:Nat),by rw [Ja,JE];exact hco,λw'=>Kq m r w17 w',λw24 hw24=>?_⟩;have x24:Ex w17 w24:=hw24▸Ex.drew w17;have l17m:=ci.mc.lt;have l17r:=ci.mf.lt;have h4':=ci.h4;have rn1:=ci.rn.len;rw [JJ,LJ hj]at rn1;have q24:Kq m r w17 w24:=(Kq.refl m r w17).ex x24 l17m;have c4:∀{w1:World},Kq m r w17 w1->w1.cell? ⟨b4,0,none⟩=some (.map (some r)):=λq=>by rw [IX (w:=w17) (q.kp.block b4 ci.l4 (λe=>by rcases e with e | e<;>omega))];exact ci.c4
  refine⟨q24,_,λw' q=>c4 q,sB (ci.mc.ex x24) (by omega) λw27 k27 m27=>?_⟩;have q27:Kq m r w17 w27:=q24.km k27;have mf27:jn w27 r F1:=(ci.mf.kp (Kp.ah x24 λ _=>False) (λh=>h)).kp k27.kp (λe=>ο e.symm);obtain⟨mm,hm1,hm2⟩:=mf27;refine⟨q27,r,mm,rfl,hm1,λw30 hm30 hb30=>?_⟩;have q30:Kq m r w17 w30:=q27.blk hb30 l17m ο;have mk30:Mk w30 m (n1+1):=m27.kp (S:=λg=>g=r) ⟨hb30.os,hb30.tape,hb30.output,by rw [hb30.size];exact Jc _,λg _ G=>hb30.block g G⟩ ο;have mf30:jn w30 r (aE F1 o[j] (n1+101)):=rN hm2 hm30;have hMr:∀g,M g->¬(g=m\/g=r):=λg G e=>by have :=(ci.bd.mr g G).1;omega
  have bd30:=ci.bd.kp q30.kp hMr;obtain⟨vo1,vt1,d0,d1,d2,d3,d4,d5,d6⟩:=bd30.sl;refine⟨λw'=>Kp w30 w' λg=>vo1.ownBlock=some g,λga hw32=>?_⟩;have x32:Ex w30 ga:=hw32▸Ex.drew w30;have s30:=q30.size;have nob6:¬vo1.ownBlock=some b6:=λe=>(d4 b6 e).2 rfl
  have nob4:¬vo1.ownBlock=some b4:=λe=>ci.m4 (d4 b4 e).1
  refine⟨Kp.ah x32 _,vo1,λw' k=>by rw [IX (w:=w30) (k.block b6 bd30.lt nob6)];exact d0,.map (some r),λw' k=>by rw [IX (w:=w30) (k.block b4 (by have :=ci.l4;omega) nob4)];exact c4 q30,r,_,rfl,eF hm30 (x32.block r (fu hm30)),((n1+101:Nat):Int),true,.inl ⟨rfl,?_⟩,Kp.ah x32 _,λb39 w40 hb39 hw40=>?_⟩
  ·unfold eo;simp
  have x40:Ex ga w40:=hw40▸Ex.alloc ga _;have Z:=Ex.trans x32 x40;have bd40:=bd30.ex Z;have s40:=Z.size;have hB40:w.heap.size<=w40.heap.size:=by have :=ci.kq.size;omega
  refine⟨Kp.ah Z _,aI.push (d2.kp (Kp.ah Z λ _=>False) λ _ _ h=>h) hB40 (m:=[iv (n1+101)]) (D:=λ _=>True) (.inr ⟨b39,0,1,rfl,trivial,by rw [hw40,size_alloc,hb39];omega,λi y hy=>?_⟩) (by rfl) (by omega) (by simp only [Ju,IW,Jh,JJ];omega) λv46 w47 ho47 hg47 hn47=>?_⟩
  ·cases i with
   | zero=>simp only [Kc,Kj]at hy;subst hy;rw [hw40,hb39];exact aa rfl
   | succ i=>simp at hy
  have k47:Kp w40 w47 λg=>vo1.ownBlock=some g:=Kp.aR hg47 λ _ h=>h
  have e6:=k47.block b6 bd40.lt nob6;have c60:w40.cell? ⟨b6,0,none⟩=some vo1:=by rw [Z.cell (show b6< _ from bd30.lt)];exact d0
  refine⟨Kp.trans (Kp.ah Z _) k47 λ _ _ h=>h,ho47.j9,⟨⟨vo1,by rw [IX (w:=w40) e6];exact c60⟩,by rw [Jz (w:=w40) e6];exact bd40.fr 0⟩,λw49 hw49=>⟨by unfold aj;omega,?_,by show((o.length:Int) - ((j:Int)+1)).toNat< ((o.length:Int) - j).toNat;omega⟩⟩;have hoj:o[j]∉o.take j:=λhm=>by
   have h1:=ndo.1;rw [<-J9 j o,JP hjo]at h1;exact(JG.1 h1).2.2 _ hm _ (JK ..) rfl
  have hmapj:(o.take j).map F1=(o.take j).map (aE F1 o[j] (n1+101)):=Kg λx hx=>by
   have:x≠o[j]:=λe=>hoj (by rw [<-e];exact hx)
   simp only [aE,Jn this]
  have ho47':aI 3 w.heap.size w47 v46 (((o.take (j+1)).map (aE F1 o[j] (n1+101))).map iv):=by
   rw [Jb hjo,JY,JY,<-hmapj];simp only [JA,KV,aE,KU];exact ho47
  obtain⟨bd49,k49⟩:=bd40.IA c60 k47 ho47' hn47 hw49;have ε:∀g,M g->w.heap.size<=g:=λg G=>(ci.bd.mr g G).1
  have φ:∀g,v46.ownBlock=some g->M g\/w40.heap.size<=g:=λg G=>(hn47 g G).imp (λe=>(d4 g e).1) id
  have q17:Kq m r w w30:=ci.kq.trans q30;refine⟨j+1,n1+1,aE F1 o[j] (n1+101),λg=>M g\/v46.ownBlock=some g,by omega,by omega,?_⟩;refine⟨(q17.ex Z hlm).out k49 (λg G hM=>by have :=ε g hM;omega) hlm,(mk30.ex Z).kp k49 λhM=>by have :=ε _ hM;omega,(mf30.kp (Kp.ah Z λ _=>False) (λh=>h)).kp k49 λhM=>by have :=ε _ hM;omega,?_,?_,?_,h4',?_,bd49,rfl,hlm,hlr,ο⟩
  ·rw [Jb hjo];exact ci.rn.app (Rn.one n1 o[j] F1) λx hx hx'=>hoj (by cases Jg.1 hx';exact hx)
  ·rw [IX (w:=w40) (k49.block b4 (by have :=ci.l4;omega) ci.m4),Z.cell (show b4< _ by have :=ci.l4;omega)];exact c4 q30
  ·have :=k49.size;have :=ci.l4;omega
  ·intro hM;rcases hM with hM | hM
   ·exact ci.m4 hM
   ·rcases φ b4 hM with h | h
    ·exact ci.m4 h
    ·have :=ci.l4;omega
 ·
  have hjo:j=o.length:=by simp only [I1]at hge;omega
  subst hjo;rw [Jy]at ci;refine⟨bl,0,rfl,vt,cbl ci.kq h5,at_,_,capt,hvt,λx w'=>∃(i n2:Nat) (F2:Nat->Nat) (M2:Nat->Prop) (ts2:List Value),x=i/\i<=ts.length/\CI w w' m r b4 b6 n n2 (o++(l.take i).bvs) F F2 (o.map F2) ((l.take i).map F2) ts2 M2,λx _=>(ts.length - x).toNat,⟨0,n1,F1,M,[],rfl,JS _,by simpa [Lv.take,Lv.bvs,Lv.map]using ci⟩,λx J hI=>?_⟩;obtain⟨i,n2,F2,M2,ts2,rfl,hi,V⟩:=hI;refine⟨λhlt1=>?_,λhge1=>?_⟩;rotate_left
  ·have hie:i=l.bk.length:=by simp only [I1]at hge1;omega
   rw [hie,Lv.df]at V;exact hR _ J F2 n2 V.kq V.mc V.mf V.rn (V.bd.H5 (λg _ G=>G) (af.sub (λg _ G=>G.1.1) V.th))
  have hil:i< ts.length:=by simp only [I0]at hlt1;omega
  have hie:i< l.bk.length:=by omega
  have q59:=V.kq;obtain⟨bt,ot,ζ,hvt',hct⟩:∃bt ot ζ,vt= .slice (some ⟨bt,ot,none⟩) ts.length ζ/\J.cell? ⟨bt,ot+i,none⟩=some ts[i]:=by
   rcases h7 with⟨_,h0⟩ | ⟨bt,ot,ζ,e,hbD,hb',υ⟩
   ·rw [h0]at hil;simp at hil
   ·exact⟨bt,ot,ζ,e,by rw [IX (w:=w) (q59.kp.block bt hb' (hD bt hbD))];exact υ i _ (IY hil)⟩
  obtain⟨e,he1,he2,he3⟩:=aK.single h8.bk (IY hil);have he4:l.bk[i]=e:=by rw [IY hie]at he1;exact JO he1
  have hts:=Lv.take_succ l i hie;rw [he4]at hts;have hsz:=Lv.en l e he2;have htt:=Lv.fU l e he2;have huqe:=huq.bk he2;have H:=V.mc.lt;have hl59r:=V.mf.lt;have s59:=q59.size;have h4':=V.h4;have rn2:=V.rn.len;have bvs2:(l.take (i+1)).bvs=(l.take i).bvs++e.bvs:=by rw [hts,Lv.dh]
  rw [I']at rn2;obtain⟨hdis,bvt⟩:=DZ huq hts;have keepO:∀{n3 F3},Rn n2 n3 e.bvs F2 F3->o.map F3=o.map F2/\(l.take i).map F3=(l.take i).map F2:=λ{n3 F3} rn=>by
   refine⟨Kg λx hx=>rn.out x (hdis x (JF _ hx)),cF λx hx=>rn.out x λhxe=>?_⟩;rcases hx with hx | hx
   ·exact hdis x (Jx _ hx) hxe
   ·exact huq.nf x ((Lv.mj l e he2).subset hxe) (ox l i hx)
  have fin:∀(z:Nat) (I:World) (n3:Nat) (F3:Nat->Nat),J.heap.size<=z->z< I.heap.size->Kq m r J I->Mk I m n3->jn I r F3->Rn n2 n3 e.bvs F2 F3->af (λg=>J.heap.size<=g/\g< I.heap.size) I (e.map F3) [ptr z]->
    ∃v195:Value,World.cell? I ⟨b6,1,none⟩=some v195/\∀(b196:Nat) (W:World),b196=Array.size (World.heap I)->W=World.alloc I (Obj.cells #[(Value.pointer (some ⟨z,0,none⟩))] 156)->∃(χ n199 m200:Nat) (xs201 news202:List Value),World.ownsRow W χ 156 1 v195 n199 xs201/\χ<=Array.size (World.heap W)/\dK W (Value.slice (some ⟨b196,0,none⟩) 1 1) m200 1 news202/\(n199+m200<=maxLen/\(n199+m200)* 8<=140737488355328)/\
     ∀(v203:Value) (ψ:World),World.ownsRow ψ χ 156 1 v203 (n199+m200) (xs201++news202)->World.grownBy W ψ (Value.ownBlock v195)->(∀b:Nat,Value.ownBlock v203=some b->Value.ownBlock v195=some b\/Array.size (World.heap W)<=b)->oneV v203=true/\((∃u205:Value,World.cell? ψ ⟨b6,1,none⟩=some u205)/\World.frozen? ψ ⟨b6,1,none⟩=false)/\∀ν:World,ν=World.setCell ψ ⟨b6,1,none⟩ v203->
      aj ((i:Int)+1)/\(∃(i2 n4:Nat) (F4:Nat->Nat) (M4:Nat->Prop) (ts4:List Value),(i:Int)+1=i2/\i2<=ts.length/\CI w ν m r b4 b6 n n4 (o++(l.take i2).bvs) F F4 (o.map F4) ((l.take i2).map F4) ts4 M4)/\((ts.length:Int) - ((i:Int)+1)).toNat< ((ts.length:Int) - i).toNat:=by
   intro z I n3 F3 h68 l68 β mk172 mf172 η γ;have hMr:∀g,M2 g->¬(g=m\/g=r):=λg G e=>by
    have :=(V.bd.mr g G).1;rcases e with e | e<;>omega
   obtain⟨ko,kl⟩:=keepO η;have bd172:=V.bd.kp β.kp hMr;obtain⟨vo1,vt1,d0,d1,d2,d3,d4,d5,d6⟩:=bd172.sl;refine⟨vt1,d1,λb196 W hb196 hw197=>?_⟩;have θ:Ex I W:=hw197▸Ex.alloc I _;have s197:W.heap.size=I.heap.size+1:=by rw [hw197,size_alloc]
   have s172:=β.size;have bd197:=bd172.ex θ;have hlts:ts2.length<=ts.length:=by
    have h1:=V.th.len;have h2:=Av F2 (l.take i);have :=Lv.gz l i;omega
   refine aI.push (d3.kp (Kp.ah θ λ _=>False) λ _ _ h=>h) (by omega) (m:=[ptr z]) (D:=λ _=>True) (.inr ⟨b196,0,1,rfl,trivial,by omega,λi y hy=>?_⟩) (by rfl) (by omega) (by simp only [IW,Jh];omega) λv203 ψ ho204 hg204 hn204=>?_
   ·cases i with
    | zero=>simp only [Kc,Kj]at hy;subst hy;rw [hw197,hb196];exact aa rfl
    | succ i=>simp at hy
   have k204:Kp W ψ λg=>vt1.ownBlock=some g:=Kp.aR hg204 λ _ h=>h
   have e6:=k204.block b6 bd197.lt λe=>(d5 b6 e).2 rfl
   have c61:W.cell? ⟨b6,1,none⟩=some vt1:=by rw [θ.cell (show b6< _ from bd172.lt)];exact d1
   refine⟨ho204.j9,⟨⟨vt1,by rw [IX (w:=W) e6];exact c61⟩,by rw [Jz (w:=W) e6];exact bd197.fr 1⟩,λν hw206=>⟨by unfold aj;omega,?_,by omega⟩⟩;obtain⟨bd206,ω⟩:=bd197.HY c61 k204 ho204 hn204 hw206;have ε:∀g,M2 g->w.heap.size<=g/\g< J.heap.size:=V.bd.mr;have φ:∀g,v203.ownBlock=some g->M2 g\/W.heap.size<=g:=λg G=>(hn204 g G).imp (λe=>(d5 g e).1) id
   have q206:Kq m r w ν:=((q59.trans β).ex θ hlm).out ω (λg G hM=>by have :=(ε g hM).1;omega) hlm;have s206:=ω.size;have l4:=V.l4;have hth1:af (λg=>(w.heap.size<=g/\¬(M2 g\/v203.ownBlock=some g)/\g≠b4)/\g< ν.heap.size) ν ((l.take i).map F3) ts2:=by
    rw [kl];refine af.sub (λg _ G=>⟨⟨G.1.1,λhM=>hM.elim G.1.2.1 λe=>(φ g e).elim G.1.2.1 λh=>by omega,G.1.2.2⟩,by omega⟩) (af.kp ω (λg G hM=>G.1.2.1 hM) (af.ex (af.kp β.kp (λg G e=>by
     have :=G.1.1;rcases e with e | e<;>omega) V.th) θ))
   have hth2:af (λg=>(w.heap.size<=g/\¬(M2 g\/v203.ownBlock=some g)/\g≠b4)/\g< ν.heap.size) ν (e.map F3) [ptr z]:=
    af.sub (λg _ G=>⟨⟨by omega,λhM=>hM.elim (λh=>by have :=(ε g h).2;omega) λe=>(φ g e).elim (λh=>by have :=(ε g h).2;omega) λh=>by omega,by omega⟩,by omega⟩) (af.kp ω (λg G hM=>by have :=(ε g hM).2;omega) (af.ex γ θ))
   refine⟨i+1,n3,F3,λg=>M2 g\/v203.ownBlock=some g,ts2++[ptr z],by omega,by omega,⟨q206,(mk172.ex θ).kp ω λhM=>by have :=(ε _ hM).1;omega,(mf172.kp (Kp.ah θ λ _=>False) (λh=>h)).kp ω λhM=>by have :=(ε _ hM).1;omega,?_,?_,by omega,h4',λhM=>?_,by rw [ko];exact bd206,?_,hlm,hlr,ο⟩⟩
   ·rw [bvs2,<-JH];exact V.rn.app η hdis
   ·rw [IX (w:=W) (ω.block b4 (by omega) V.m4),θ.cell (show b4< _ by omega),IX (w:=J) (β.kp.block b4 l4 λe=>by rcases e with e | e<;>omega)];exact V.c4
   ·rcases hM with hM | hM
    ·exact V.m4 hM
    ·rcases φ b4 hM with h | h
     ·exact V.m4 h
     ·omega
   ·rw [hts,Lv.e9];exact af.app hth1 hth2
  refine⟨bt,ot,_,ζ,hvt',by omega,by omega,ts[i],by rw [Ja,JE];exact hct,?_⟩;have h26:=huqe.ge;have l4:=V.l4;have c4b:∀{w1:World},Kq m r J w1->w1.cell? ⟨b4,0,none⟩=some (.map (some r)):=λq=>by
   rw [IX (w:=J) (q.kp.block b4 l4 λe=>by rcases e with e | e<;>omega)];exact V.c4
  rcases Lv.jz hsh e he2 with⟨kk,a,b,o',q,rfl,hq⟩ | ⟨ps,rfl,hps⟩
  ·obtain⟨t,ts',a',b',vr,e1,ht,hkk,hlv,_⟩:=he3;obtain⟨rfl,rfl⟩:=J3 e1;obtain⟨g,G,hgD,hg2,c0,c1,c2,c3,c4'⟩:=ht;have cg:∀{w1:World},Kq m r J w1->∀{j:Nat} {u:Value},w.cell? ⟨g,j,none⟩=some u->w1.cell? ⟨g,j,none⟩=some u:=λx j u hu=>by
    rw [IX (w:=w) ((q59.trans x).kp.block g hg2 (hD g hgD))];exact hu
   have q0:=Kq.refl m r J;simp only [Lv.sz]at hsz;simp only [Lv.tot]at htt;obtain⟨u1,u2⟩:=huqe.thr;have ebv:(Lv.thr kk a b o' q .nil).bvs=(if kk= .r then [b]else [])++(o'++q.bvs):=by simp [Lv.bvs]
   rw [ebv]at bvt;simp only [I']at bvt;refine⟨g,0,G,kk.byte,cg q0 c0,λz α hb68 hw69=>⟨λw'=>∃(n3:Nat) (F3:Nat->Nat) (a1 b1:Nat),Kq m r J w'/\Mk w' m n3/\jn w' r F3/\Rn n2 n3 (if kk= .r then [b]else []) F2 F3/\ke w' z kk.byte a1 b1 (.pointer none) (.slice none 0 0)/\(kk= .t\/kk= .p\/(a1=F3 a/\b1=F3 b)),⟨g,0,G,kk.byte,?_,?_⟩,λw146 hJ=>?_⟩⟩
   all_goals have x69:Ex J α:=hw69▸Ex.alloc J _
   all_goals have μ:Kq m r J α:=q0.ex x69 H
   ·exact cg μ c0
   ·have th69:ke α z kk.byte 0 0 (.pointer none) (.slice none 0 0):=ke.new hb68 hw69;have mk69:=V.mc.ex x69;have mf69:=V.mf.kp (Kp.ah x69 λ _=>False) (λh=>h);have two:(kk= .s\/kk= .m)->∃S106:World->Prop,∀ξ:World,ξ=World.drew α->S106 ξ/\∃(b108 o109:Nat),ts[i]=Value.pointer (some ⟨b108,o109,none⟩)/\∃n110:Int,(∀w',S106 w'->World.cell? w' ⟨b108,(o109+1),none⟩=some (Value.int IntKind.i64 n110))/\∃(b111 o112:Nat),ts[i]=Value.pointer (some ⟨b111,o112,none⟩)/\∃n113:Int,(∀w',S106 w'->World.cell? w' ⟨b111,(o112+2),none⟩=some (Value.int IntKind.i64 n113))/\∃(f114:Nat) (ca115:List Value),(Value.func (Fn.func 239) #[] #[(Value.pointer (some ⟨b4,0,none⟩))])=Value.func (Fn.func f114) #[] (List.toArray ca115)/\List.contains dC f114=true/\Calls Tryz.prog f114 (List.toArray ([(Value.int IntKind.i64 n110)]++ca115)) ξ (an [.i] fun(n116:Int) (w117:World)=>S106 w117/\∃(f118:Nat) (ca119:List Value),(Value.func (Fn.func 239) #[] #[(Value.pointer (some ⟨b4,0,none⟩))])=Value.func (Fn.func f118) #[] (List.toArray ca119)/\List.contains dC f118=true/\Calls Tryz.prog f118 (List.toArray ([(Value.int IntKind.i64 n113)]++ca119)) w117 (an [.i] fun(n120:Int) (w121:World)=>S106 w121/\((∃u122:Value,World.cell? w121 ⟨z,1,none⟩=some u122)/\World.frozen? w121 ⟨z,1,none⟩=false)/\∀w123:World,w123=World.setCell w121 ⟨z,1,none⟩ (Value.int IntKind.i64 n116)->((∃u124:Value,World.cell? w123 ⟨z,2,none⟩=some u124)/\World.frozen? w123 ⟨z,2,none⟩=false)/\∀w125:World,w125=World.setCell w123 ⟨z,2,none⟩ (Value.int IntKind.i64 n120)->
      ∃(n3:Nat) (F3:Nat->Nat) (a1 b1:Nat),Kq m r J w125/\Mk w125 m n3/\jn w125 r F3/\Rn n2 n3 (if kk= .r then [b]else []) F2 F3/\ke w125 z kk.byte a1 b1 (.pointer none) (.slice none 0 0)/\(kk= .t\/kk= .p\/(a1=F3 a/\b1=F3 b)))):=by
     intro hk2;obtain⟨rfl,rfl⟩:a'=a/\b'=b:=by
      rcases hkk with h | h | h
      ·rw [h]at hk2;simp at hk2
      ·rw [h]at hk2;simp at hk2
      ·exact h
     refine⟨λw'=>Ex α w',λξ hw107=>⟨hw107▸Ex.drew α,g,0,G,a',λw' x=>cg (μ.ex x H) c1,g,0,G,b',λw' x=>cg (μ.ex x H) c2,239,[ptr b4],rfl,by kernel_rfl,?_⟩⟩;have x107:Ex α ξ:=hw107▸Ex.drew α;have q107:=μ.ex x107 H;have mf107:=mf69.kp (Kp.ah x107 λ _=>False) (λh=>h);refine yE (c4b q107) mf107 ⟨x107,239,[ptr b4],rfl,by kernel_rfl,yE (c4b q107) mf107 ⟨x107,?_⟩⟩;have th107:ke ξ z kk.byte 0 0 (.pointer none) (.slice none 0 0):=th69.kp (Kp.ah x107 λ _=>False) λh=>h
     refine⟨⟨⟨_,th107.c1⟩,th107.f 1⟩,λw123 hw123=>?_⟩;have th123:=th107.wL (x:=F2 a') hw123;refine⟨⟨⟨_,th123.c2⟩,th123.f 2⟩,λw125 hw125=>?_⟩;have th125:=th123.sC (x:=F2 b') hw125;have kb:Kr z ξ w125:=Kr.trans (hw123▸Kr.set ξ 1 _) (hw125▸Kr.set w123 2 _);have hkr:¬kk= .r:=λe=>by rw [e]at hk2;simp at hk2
     rw [Jn hkr];exact⟨n2,F2,F2 a',F2 b',q107.out kb (λg G e=>by omega) H,(mk69.ex x107).kp kb (by omega),mf107.kp kb (by omega),Rn.refl n2 F2,th125,.inr (.inr ⟨rfl,rfl⟩)⟩
    have zero:(kk= .t\/kk= .p)->∃(n3:Nat) (F3:Nat->Nat) (a1 b1:Nat),Kq m r J α/\Mk α m n3/\jn α r F3/\Rn n2 n3 (if kk= .r then [b]else []) F2 F3/\ke α z kk.byte a1 b1 (.pointer none) (.slice none 0 0)/\(kk= .t\/kk= .p\/(a1=F3 a/\b1=F3 b)):=by
     intro hk2;have hkr:¬kk= .r:=λe=>by rw [e]at hk2;simp at hk2
     rw [Jn hkr];exact⟨n2,F2,0,0,μ,mk69,mf69,Rn.refl n2 F2,th69,hk2.elim .inl λh=> .inr (.inl h)⟩
    cases kk
    case s=>exact aT (by decide) ⟨λ _=>cS (by decide) (two (.inl rfl)),λh=>absurd h (by decide)⟩
    case m=>exact aT (by decide) ⟨λh=>absurd h (by decide),λ _=>cS (by decide) (two (.inr rfl))⟩
    case t=>exact aT (by decide) ⟨λh=>absurd h (by decide),λ _=>aT (by decide) (zero (.inl rfl))⟩
    case p=>exact aT (by decide) ⟨λh=>absurd h (by decide),λ _=>aT (by decide) (zero (.inr rfl))⟩
    case r=>
     obtain⟨rfl,rfl⟩:a'=a/\b'=b:=by rcases hkk with h | h | h<;>first | exact h | cases h
     obtain⟨v1,v2,v3,v4⟩:=u2 rfl;simp only [KU,IW,Jh]at bvt;refine cS (by decide) ⟨g,0,G,a',cg μ c1,239,[ptr b4],rfl,by kernel_rfl,yE (c4b μ) mf69 ⟨⟨⟨_,th69.c1⟩,th69.f 1⟩,λw82 hw82=>⟨λw'=>Kq m r J w',λw84 hw84=>?_⟩⟩⟩;have th82:=th69.wL (x:=F2 a') hw82;have kb82:Kr z α w82:=hw82▸Kr.set α 1 _;have x84:Ex w82 w84:=hw84▸Ex.drew w82;have q82:Kq m r J w82:=μ.out kb82 (λg G e=>by omega) H;have q84:=q82.ex x84 H;have mk82:=mk69.kp kb82 (by omega);have mf82:=mf69.kp kb82 (by omega);refine⟨q84,_,λw' q=>c4b q,g,0,G,b',λw' q=>cg q c2,sB (mk82.ex x84) (by omega) λw90 k90 m90=>?_⟩;have q90:=q84.km k90;have th90:=(th82.kp (Kp.ah x84 λ _=>False) λh=>h).kp k90.kp (by omega);obtain⟨mm,hm1,hm2⟩:=(mf82.kp (Kp.ah x84 λ _=>False) (λh=>h)).kp k90.kp (λe=>ο e.symm);refine⟨q90,r,mm,rfl,hm1,λw93 hm93 hb93=>?_⟩;have kr93:Kp w90 w93 (λg=>g=r):=⟨hb93.os,hb93.tape,hb93.output,by rw [hb93.size];exact Jc _,λg _ G=>hb93.block g G⟩
     have q93:=q90.blk hb93 H ο;have mk93:=m90.kp kr93 ο;have th93:=th90.kp kr93 (by omega);refine⟨λw'=>Ex w93 w',λw95 hw95=>?_⟩;have x95:Ex w93 w95:=hw95▸Ex.drew w93;have q95:=q93.ex x95 H;have th95:=th93.kp (Kp.ah x95 λ _=>False) λh=>h
     refine⟨x95,_,λw' x=>c4b (q93.ex x H),g,0,G,b',λw' x=>cg (q93.ex x H) c2,r,_,rfl,eF hm93 (x95.block r (fu hm93)),((n2+101:Nat):Int),true,.inl ⟨rfl,by unfold eo;simp⟩,⟨⟨_,th95.c2⟩,th95.f 2⟩,λw105 hw105=>?_⟩;have kb105:Kr z w95 w105:=hw105▸Kr.set w95 2 _;refine⟨n2+1,aE F2 b' (n2+101),F2 a',n2+101,q95.out kb105 (λg G e=>by omega) H,(mk93.ex x95).kp kb105 (by omega),((rN hm2 hm93).kp (Kp.ah x95 λ _=>False) (λh=>h)).kp kb105 (by omega),Rn.one n2 b' F2,th95.sC hw105,.inr (.inr ⟨?_,?_⟩)⟩
     ·exact(Jn λe=>v2 e.symm).symm
     ·simp [aE]
   ·obtain⟨n3,F3,a1,b1,q146,mk146,mf146,rn146,th146,hab⟩:=hJ;have hbr:∃br,vr=ptr br:=by obtain⟨br,_,_,_,e,_⟩:=hlv;exact⟨br,e⟩
    obtain⟨br,rfl⟩:=hbr;have h68:J.heap.size<=z:=by omega
    refine⟨λw'=>∃(n4:Nat) (F4:Nat->Nat) (vr2:Value),Kq m r J w'/\Mk w' m n4/\jn w' r F4/\Rn n2 n4 ((if kk= .r then [b]else [])++(o'++q.bvs)) F2 F4/\ke w' z kk.byte a1 b1 vr2 (.slice none 0 0)/\aB (λg=>J.heap.size<=g/\g< w'.heap.size) w' (o'.map F4,q.map F4) vr2/\(kk= .t\/kk= .p\/(a1=F4 a/\b1=F4 b)),⟨g,0,G,ptr br,cg q146 c3,some ⟨br,0,none⟩,rfl,λ _=>⟨λw'=>Kq m r J w',λw153 hw153=>?_⟩,λh=>by cases h⟩,λw162 hJ=>?_⟩
    ·have x153:Ex w146 w153:=hw153▸Ex.drew w146;have q153:=q146.ex x153 H;have rl:=rn146.len;have hb1:(if kk= .r then [b]else []).length=if kk= .r then 1 else 0:=by split<;>rfl
     have hl153:fS D w153 (ptr br) o' (af D w153 q):=hlv.kp (q59.trans q153).kp hD λl h=>h.kp (q59.trans q153).kp hD
     refine⟨q153,g,0,G,ptr br,λw' x=>cg x c3,_,λw' x=>c4b x,ih q.sz (by omega) (Jc _) hq hl153 hD u1 (mk146.ex x153) (mf146.kp (Kp.ah x153 λ _=>False) (λh=>h)) ο (by omega) (by omega) λv158 w159 F4 n4 q159 mk159 mf159 rn159 l159=>?_⟩;have s153:=x153.size;have hb68l:=th146.lt;have th159:=(th146.kp (Kp.ah x153 λ _=>False) λh=>h).kp q159.kp (by omega);refine⟨l159.one,⟨⟨_,th159.c3⟩,th159.f 3⟩,λw161 hw161=>?_⟩;have kb161:Kr z w159 w161:=hw161▸Kr.set w159 3 _;have s159:=q159.size;have s161:=kb161.size;have ndb:=huqe.nd;rw [JW,ebv]at ndb;have nfb:=huqe.nf;rw [ebv]at nfb;have hdis2:=(JG.1 ndb).2.2;refine⟨n4,F4,v158,(q153.trans q159).out kb161 (λg G e=>by omega) H,mk159.kp kb161 (by omega),mf159.kp kb161 (by omega),rn146.app rn159 (λx hx hx'=>hdis2 x hx x hx' rfl),th159.BA hw161,?_,?_⟩
     ·exact aB.sub (aB.kp (aB.sub (E:=λg=>w153.heap.size<=g/\g< w159.heap.size) l159 λg G hd=>⟨hd,G⟩) kb161 λg G e=>by omega) λg _ G=>⟨by have :=q153.size;omega,by omega⟩
     ·rcases hab with h | h | ⟨ha,hb⟩
      ·exact .inl h
      ·exact .inr (.inl h)
      ·by_cases hkt:kk= .t\/kk= .p
       ·exact hkt.elim .inl λh=> .inr (.inl h)
       ·right;right;have hfa:a∉o'++q.bvs:=λhm=>nfb a (Jx _ hm) (by
         cases kk
         ·exact .inl ⟨.inl rfl,.inl rfl⟩
         ·exact .inr (.inl ⟨rfl,rfl⟩)
         ·exact absurd (.inl rfl) hkt
         ·exact .inl ⟨.inr rfl,.inl rfl⟩
         ·exact absurd (.inr rfl) hkt)
        have hfb:b∉o'++q.bvs:=λhm=>by
         by_cases hkr:kk= .r
         ·have :=u2 hkr;exact(Jf.1 hm).elim this.2.2.1 this.2.2.2
         ·exact nfb b (Jx _ hm) (by
           cases kk
           ·exact .inl ⟨.inl rfl,.inr rfl⟩
           ·exact absurd rfl hkr
           ·exact absurd (.inl rfl) hkt
           ·exact .inl ⟨.inr rfl,.inr rfl⟩
           ·exact absurd (.inr rfl) hkt)
        rw [rn159.out a hfa,rn159.out b hfb];exact⟨ha,hb⟩
    ·obtain⟨n4,F4,vr2,q162,mk162,mf162,rn162,th162,l162,hab4⟩:=hJ;refine⟨g,0,G,.slice none 0 0,cg q162 c4',none,0,0,rfl,λy w'=>y=0/\w'=w162,λ _ _=>0,⟨rfl,rfl⟩,λy I hy=>?_⟩;obtain⟨rfl,rfl⟩:=hy;refine⟨λh=>by simp at h,λ _=>fin z I n4 F4 h68 th162.lt q162 mk162 mf162 (by rw [ebv];exact rn162) ?_⟩;refine⟨ptr z,[],a1,b1,vr2,rfl,th162.Hw ⟨h68,th162.lt⟩,?_,l162,rfl⟩;rcases hab4 with h | h | ⟨h1,h2⟩
     ·exact .inl h
     ·exact .inr (.inl h)
     ·by_cases hkt:kk= .t\/kk= .p
      ·exact hkt.elim .inl λh=> .inr (.inl h)
      ·exact .inr (.inr ⟨by rw [Jn hkt];exact h1,by rw [Jn hkt];exact h2⟩)
  ·obtain⟨t,ts',a',b',vp,us,e1,ht,hus,hps2,_⟩:=he3;obtain⟨rfl,rfl⟩:=J3 e1;obtain⟨g,G,hgD,hg2,c0,c1,c2,c3,c4'⟩:=ht;have cg:∀{w1:World},Kq m r J w1->∀{j:Nat} {u:Value},w.cell? ⟨g,j,none⟩=some u->w1.cell? ⟨g,j,none⟩=some u:=λx j u hu=>by
    rw [IX (w:=w) ((q59.trans x).kp.block g hg2 (hD g hgD))];exact hu
   have q0:=Kq.refl m r J;have uq:=huqe.sum;have ebv:(Lv.sum ps .nil).bvs=ps.bvs:=by simp [Lv.bvs]
   rw [ebv]at bvt;simp only [Lv.sz]at hsz;simp only [Lv.tot]at htt;obtain⟨au,cau,hvu⟩:=hus.slice;have hul:=hps2.len;have hpl:=Lv.cK ps;have hpt:=bS ps;refine⟨g,0,G,43,cg q0 c0,λz α hb68 hw69=>⟨λw'=>w'=α,⟨g,0,G,43,?_,aT (by decide) ⟨λh=>absurd h (by decide),λ _=>aT (by decide) rfl⟩⟩,λw146 hJ=>⟨λw'=>w'=α,?_,λw162 hJ2=>?_⟩⟩⟩
   all_goals have x69:Ex J α:=hw69▸Ex.alloc J _
   all_goals have μ:Kq m r J α:=q0.ex x69 H
   ·exact cg μ c0
   ·subst hJ;exact⟨g,0,G,.pointer none,cg μ c3,none,rfl,λh=>(by cases h),λ _=>rfl⟩
   subst hJ2;have h68:J.heap.size<=z:=by omega
   have th69:ke w162 z 43 0 0 (.pointer none) (.slice none 0 0):=ke.new hb68 hw69;refine⟨g,0,G,vp,cg μ c4',au,_,cau,hvu,λy w'=>∃(j n3:Nat) (F3:Nat->Nat) (δ:Value) (us2:List Value),y=j/\j<=us.length/\Kq m r J w'/\Mk w' m n3/\jn w' r F3/\Rn n2 n3 (ps.take j).bvs F2 F3/\ke w' z 43 0 0 (.pointer none) δ/\aI 146 J.heap.size w' δ us2/\(∀g,δ.ownBlock=some g->g≠z)/\af (λg=>(J.heap.size<=g/\g≠z/\δ.ownBlock≠some g)/\g< w'.heap.size) w' ((ps.take j).map F3) us2,
    λy _=>(us.length - y).toNat,⟨0,n2,F2,.slice none 0 0,[],rfl,JS _,μ,V.mc.ex x69,V.mf.kp (Kp.ah x69 λ _=>False) (λh=>h),Rn.refl n2 F2,th69,aI.nil _ _ _,λg G=>(by cases G),rfl⟩,λy I hI2=>?_⟩
   obtain⟨j,n3,F3,δ,us2,rfl,hj,β,mk172,mf172,η,γ,ho172,hnb,ht172⟩:=hI2;refine⟨λhlt2=>?_,λhge2=>?_⟩;rotate_left
   ·have hje:j=ps.bk.length:=by simp only [I1]at hge2;omega
    rw [hje,Lv.df]at η ht172;refine fin z I n3 F3 h68 γ.lt β mk172 mf172 (by rw [ebv];exact η) ⟨ptr z,[],0,0,δ,us2,rfl,γ.Hw ⟨h68,γ.lt⟩,ho172.Bo (λg G=>ho172.block g G),af.sub (λg _ G=>⟨G.1.1,G.2⟩) ht172,rfl⟩
   have hju:j< us.length:=by simp only [I0]at hlt2;omega
   have hje:j< ps.bk.length:=by omega
   obtain⟨bu,ou,capu',hvu',hcu⟩:∃bu ou capu',vp= .slice (some ⟨bu,ou,none⟩) us.length capu'/\I.cell? ⟨bu,ou+j,none⟩=some us[j]:=by
    rcases hus with⟨_,h0⟩ | ⟨bt,ot,ζ,e,hbD,hb',υ⟩
    ·rw [h0]at hju;simp at hju
    ·exact⟨bt,ot,ζ,e,by rw [IX (w:=w) ((q59.trans β).kp.block bt hb' (hD bt hbD))];exact υ j _ (IY hju)⟩
   obtain⟨e,hf1,hf2,hf3⟩:=aK.single hps2.bk (IY hju);have hf4:ps.bk[j]=e:=by rw [IY hje]at hf1;exact JO hf1
   have hts2:=Lv.take_succ ps j hje;rw [hf4]at hts2;obtain⟨hdis2,bvt2⟩:=DZ uq hts2;have huqe2:=uq.bk hf2;have hsz2:=Lv.en ps e hf2;have htt2:=Lv.fU ps e hf2;obtain⟨o2,q,rfl,hq⟩:=Lv.lL hps e hf2;simp only [Lv.sz]at hsz2;simp only [Lv.tot]at htt2;have ebv2:(Lv.part o2 q .nil).bvs=o2++q.bvs:=by simp [Lv.bvs]
   rw [ebv2]at bvt2 hdis2;rw [I']at bvt2;obtain⟨v2,ts3,e2,hlv2,_⟩:=hf3;obtain⟨rfl,rfl⟩:=J3 e2;have rl:=η.len;have s172:=β.size;refine⟨bu,ou,_,capu',hvu',by omega,by omega,us[j],by rw [Ja,JE];exact hcu,λw'=>Kp I w' λg=>g=m\/g=r\/δ.ownBlock=some g,λw179 hw179=>?_⟩;have ι:Ex I w179:=hw179▸Ex.drew I;have q179:=β.ex ι H;have hob:=ho172.block;have hb68l:=γ.lt;have nb68:¬(z=m\/z=r\/δ.ownBlock=some z):=λe=>by
    rcases e with e | e | e
    ·omega
    ·omega
    ·exact hnb _ e rfl
   have nb4:¬(b4=m\/b4=r\/δ.ownBlock=some b4):=λe=>by
    rcases e with e | e | e
    ·omega
    ·omega
    ·have :=hob _ e;omega
   have hl179:fS D w179 us[j] o2 (af D w179 q):=hlv2.kp (q59.trans q179).kp hD λl h=>h.kp (q59.trans q179).kp hD
   refine⟨Kp.ah ι _,δ,λw' k=>by rw [IX (w:=I) (k.block z hb68l nb68)];exact γ.c4,.map (some r),λw' k=>by rw [IX (w:=I) (k.block b4 (by omega) nb4)];exact c4b β,?_⟩;refine ih q.sz (by omega) (Jc _) hq hl179 hD huqe2.part (mk172.ex ι) (mf172.kp (Kp.ah ι λ _=>False) (λh=>h)) ο (by omega) (by omega) λv182 w183 F4 n4 q183 mk183 mf183 rn183 l183=>?_
   have k183:Kp I w183 λg=>g=m\/g=r\/δ.ownBlock=some g:=Kp.trans (Kp.ah ι _) (Kp.mono (λg e=>e.elim .inl λe=> .inr (.inl e)) q183.kp) λ _ _ h=>h
   refine⟨k183,l183.one,λb184 w185 hb184 hw185=>?_⟩;have κ:Ex w183 w185:=hw185▸Ex.alloc w183 _;have s185:w185.heap.size=w183.heap.size+1:=by rw [hw185,size_alloc]
   have s179:=ι.size;have s183:=q183.size;have hMr:∀g,δ.ownBlock=some g->¬(g=m\/g=r):=λg G e=>by
    have :=hob g G;rcases e with e | e<;>omega
   have ho185:aI 146 J.heap.size w185 δ us2:=((ho172.kp (Kp.ah ι λ _=>False) λ _ _ h=>h).kp q183.kp hMr).kp (Kp.ah κ λ _=>False) λ _ _ h=>h
   have hlu:us2.length<=us.length:=by
    have h1:=ht172.len;have h2:=Av F3 (ps.take j);have :=Lv.gz ps j;omega
   refine⟨Kp.trans k183 (Kp.ah κ λ _=>False) λ _ _ h=>h.elim,aI.push ho185 (by omega) (m:=[v182]) (D:=λ _=>True) (.inr ⟨b184,0,1,rfl,trivial,by omega,λi y hy=>?_⟩) (by simp only [Kb,LC,Ld];exact l183.one) (by omega) (by simp only [IW,Jh];omega) λv191 w192 ho192 hg192 hn192=>?_⟩
   ·cases i with
    | zero=>simp only [Kc,Kj]at hy;subst hy;rw [hw185,hb184];exact aa rfl
    | succ i=>simp at hy
   have k192:Kp w185 w192 λg=>δ.ownBlock=some g:=Kp.aR hg192 λ _ h=>h
   have th185:=((γ.kp (Kp.ah ι λ _=>False) λh=>h).kp q183.kp (λe=>by rcases e with e | e<;>omega)).kp (Kp.ah κ λ _=>False) λh=>h
   have th192:=th185.kp k192 λe=>hnb _ e rfl
   refine⟨Kp.trans (Kp.trans k183 (Kp.ah κ λ _=>False) λ _ _ h=>h.elim) k192 λg _ h=> .inr (.inr h),ho192.j9,⟨⟨_,th192.c4⟩,th192.f 4⟩,λw194 hw194=>⟨by unfold aj;omega,?_,by show((us.length:Int) - ((j:Int)+1)).toNat< ((us.length:Int) - j).toNat;omega⟩⟩;have kb194:Kr z w192 w194:=hw194▸Kr.set w192 4 _;have k194:Kp w185 w194 λg=>δ.ownBlock=some g\/g=z:=Kp.trans (Kp.mono (λ _ h=> .inl h) k192) kb194 λ _ _ h=> .inr h
   have s194:=k194.size;have hnew:∀g,v191.ownBlock=some g->δ.ownBlock=some g\/w185.heap.size<=g:=hn192;have q185:Kq m r J w185:=(q179.trans q183).ex κ H;have xU:(ps.take j).map F4=(ps.take j).map F3:=cF λx hx=>rn183.out x λhxe=>by
    rcases hx with hx | hx
    ·exact hdis2 x hx hxe
    ·exact uq.nf x ((Lv.mj ps _ hf2).subset (by rw [ebv2];exact hxe)) (ox ps j hx)
   have hS:∀g,(δ.ownBlock=some g\/g=z)->J.heap.size<=g:=λg e=>e.elim (λe=>(hob g e).1) λe=>by omega
   refine⟨j+1,n4,F4,v191,us2++[v182],by omega,by omega,q185.out k194 (λg G e=>by have :=hS g e;omega) H,(mk183.ex κ).kp k194 (λe=>by have :=hS _ e;omega),(mf183.kp (Kp.ah κ λ _=>False) (λh=>h)).kp k194 (λe=>by have :=hS _ e;omega),?_,th192.Gp hw194,ho192.kp kb194 (λg G e=>?_),λg G e=>?_,?_⟩
   ·rw [hts2,Lv.dh,ebv2];exact η.app rn183 hdis2
   ·rcases hnew g G with h | h
    ·exact hnb g h e
    ·omega
   ·rcases hnew g G with h | h
    ·exact hnb g h e
    ·omega
   ·rw [hts2,Lv.e9,xU];refine af.app ?_ ?_
    ·refine af.sub (λg _ G=>⟨⟨G.1.1,G.1.2.1,λe=>(hnew g e).elim G.1.2.2 λh=>by omega⟩,by omega⟩) (af.kp k194 (λg G e=>e.elim G.1.2.2 G.1.2.1) (af.ex (af.kp q183.kp (λg G e=>by
      have :=G.1.1;rcases e with e | e<;>omega) (af.ex ht172 ι)) κ))
    ·refine⟨v182,[],rfl,?_,rfl⟩;have l183':=aB.sub (E:=λg=>w179.heap.size<=g/\g< w183.heap.size) l183 λg G hd=>⟨hd,G⟩
     exact aB.sub (aB.kp (aB.ex l183' κ) k194 λg G e=>by
      rcases e with e | e
      ·have :=hob g e;omega
      ·omega) λg _ G=>⟨⟨by omega,by omega,λe=>(hnew g e).elim (λh=>by have :=hob g h;omega) λh=>by omega⟩,by omega⟩
theorem DI (k:Nat):GK k:=by
 induction k using Nat.strongRecOn with
 | _ k z=>exact wX k z
def AT (acc:List Tx)(s:Tx):List Tx:=if acc.getLast?=some s then acc else acc++[s]
def dd (l:List Tx):List Tx:=l.foldl AT []
theorem jO (l:List Tx)(s:Tx):dd (l++[s])=AT (dd l) s:=by unfold dd;rw [List.foldl_append];rfl
theorem Er:∀l:List Tx,(dd l).getLast?=l.getLast?:=by
 intro l;rcases List.eq_nil_or_concat l with rfl | ⟨l,s,rfl⟩
 ·rfl
 ·rw [List.concat_eq_append,jO];unfold AT;split
  ·rename_i h;rw [h];simp
  ·simp
theorem Cu (l:List Tx):(dd l).length<=l.length:=by
 have:∀n (l:List Tx),l.length=n->(dd l).length<=l.length:=by
  intro n
  induction n with
  | zero=>intro l h;have :=Jv h;subst this;exact Jc _
  | succ n z=>
   intro l h;rcases List.eq_nil_or_concat l with rfl | ⟨l,s,rfl⟩
   ·exact Jc _
   ·rw [List.concat_eq_append]at h|-;rw [jO];have G:=z l (by simpa using h);unfold AT;split
    ·simp;omega
    ·simp;omega
 exact this _ l rfl
theorem Gg {l:List Tx}:∀s,s∈dd l↔s∈l:=by
 have:∀n (l:List Tx),l.length=n->∀s,s∈dd l↔s∈l:=by
  intro n
  induction n with
  | zero=>intro l h;have :=Jv h;subst this;intro s;exact Mc
  | succ n G=>
   intro l h s;rcases List.eq_nil_or_concat l with rfl | ⟨l,x,rfl⟩
   ·exact Mc
   ·rw [List.concat_eq_append]at h|-;rw [jO];have z:=G l (by simpa using h);unfold AT;split
    ·rename_i H;rw [z,Jf,Jg];refine⟨.inl,λh=>h.elim id λe=>?_⟩;subst e;exact(z s).1 (List.mem_of_getLast? H)
    ·simp [z]
 exact this _ l rfl
structure G5 (B:Nat)(w:World)(r:Nat)(l:List Tx)(bad:Bool)(M:Nat->Prop):Prop where
 lt:r< w.heap.size
 mb:M r
 mr:∀g,M g->B<=g/\g< w.heap.size
 f:∀j,w.frozen? ⟨r,j,none⟩=false
 c1:w.cell? ⟨r,1,none⟩=some (.bool bad)
 sl:∃v,w.cell? ⟨r,0,none⟩=some v/\Own B w v l/\∀g,v.ownBlock=some g->M g/\g≠r
theorem G5.kp {B:Nat}{w w':World}{r:Nat}{l:List Tx}{bad:Bool}{M S:Nat->Prop}(h:G5 B w r l bad M)(k:Kp w w' S)(G:∀g,M g->¬S g):G5 B w' r l bad M:=by
 have e:=k.block r h.lt (G r h.mb);obtain⟨v,I,J,H⟩:=h.sl;exact⟨Jt h.lt k.size,h.mb,λg z=>⟨(h.mr g z).1,Jt (h.mr g z).2 k.size⟩,λj=>by rw [Jz (w:=w) e];exact h.f j,by rw [IX (w:=w) e];exact h.c1,v,by rw [IX (w:=w) e];exact I,J.kp k λg z=>G g (H g z).1,H⟩
theorem Own.j9 {B:Nat}{w:World}{v:Value}{l:List Tx}(h:Own B w v l):oneV v=true:=by
 rcases h.2 with⟨rfl,_⟩ | ⟨g,cap,cur,rfl,_⟩<;>rfl
theorem Gx {B:Nat}{w:World}{r:Nat}{l:List Tx}{bad:Bool}{M:Nat->Prop}{s:Tx}{ok:Bool}(h:G5 B w r l bad M)(hl:l.length<=1099511627775){R:World->Prop}
  (hR:∀w' M',Kp w w' M->G5 B w' r (l++[s]) (bad|| !ok) M'->(∀g,M' g->M g\/w.heap.size<=g)->R w'):Calls Tryz.prog 99 #[ptr r,.string (ab s),.bool ok] w (an [] R):=by
 refine my (ptr r) s ok w R ?_;obtain⟨v,h1,h2,h3⟩:=h.sl;refine⟨r,0,rfl,v,h1,λb7 w8 η Z=>?_⟩;have x8:Ex w w8:=Z▸Ex.alloc w _;have s8:w8.heap.size=w.heap.size+1:=by rw [Z,size_alloc]
 have hB:=(h.mr r h.mb).1;have α:=h.lt;refine Own.push (h2.ex x8) (by omega) (Strs.one η Z) (by simp only [IW,Jh];omega) λβ H _ J ε W=>?_
 have γ:Kp w8 H λg=>v.ownBlock=some g:=Kp.aR ε λ _ h=>h
 have δ:=γ.block r (by omega) λe=>(h3 r e).2 rfl
 have ι:=γ.size;have c0:H.cell? ⟨r,0,none⟩=some v:=by rw [IX (w:=w8) δ,x8.cell (show r< _ from α)];exact h1
 have c1:H.cell? ⟨r,1,none⟩=some (.bool bad):=by rw [IX (w:=w8) δ,x8.cell (show r< _ from α)];exact h.c1
 have f15:∀j,H.frozen? ⟨r,j,none⟩=false:=λj=>by rw [Jz (w:=w8) δ,Kx x8 α];exact h.f j
 refine⟨r,0,rfl,J.j9,⟨⟨_,c0⟩,f15 0⟩,λθ z=>⟨r,0,rfl,bad,?_,λhb=>⟨r,0,rfl,⟨⟨.bool bad,?_⟩,?_⟩,λV G=>?_⟩,λhb=>⟨r,0,rfl,⟨⟨.bool bad,?_⟩,?_⟩,λV G=>?_⟩⟩⟩
 ·rw [z,I4 _ _ _ _ (by simp)];exact c1
 ·rw [z,I4 _ _ _ _ (by simp)];exact c1
 ·rw [z,Jl];exact f15 1
 rotate_left
 ·rw [z,I4 _ _ _ _ (by simp)];exact c1
 ·rw [z,Jl];exact f15 1
 all_goals
  have kk:Kr r H V:=Kr.trans (z▸Kr.set H 0 _) (G▸Kr.set θ 1 _);have κ:=kk.size;have ζ:∀g,β.ownBlock=some g->g≠r:=λg I=>(W g I).elim (λe=>(h3 g e).2) λe=>by omega
  have kM:Kp w V M:=Kp.trans (Kp.trans (Kp.ah x8 M) (Kp.mono (λg e=>(h3 g e).1) γ) λ _ _ h=>h) kk λg _ e=>by rw [e];exact h.mb
  refine hR V (λg=>M g\/β.ownBlock=some g) kM ⟨by omega,.inl h.mb,λg I=>?_,λj=>?_,?_,β,?_,J.kp kk ζ,λg I=>⟨.inr I,ζ g I⟩⟩ λg I=>I.elim .inl λe=>(W g e).elim (λe=> .inl (h3 g e).1) λh=> .inr (by omega)
  ·rcases I with I | I
   ·have :=h.mr g I;omega
   ·have :=J.block g I;omega
  ·rw [G,Jl,z,Jl];exact f15 j
  ·rw [G]
   first
    | (rw [hb,Lq];exact Jk _ _ _ (u:= .bool bad) (by rw [z,I4 _ _ _ _ (by simp)];exact c1))
    | (rw [hb,Bool.true_or];exact Jk _ _ _ (u:= .bool bad) (by rw [z,I4 _ _ _ _ (by simp)];exact c1))
  ·rw [G,I4 _ _ _ _ (by simp),z];exact Jk _ _ _ c0
theorem En {w:World}{R:World->Prop}(z:R w):Calls Tryz.prog 115 #[.slice none 0 0] w (an [] R):=by
 refine(Any.slices_Sort_string_none zd none 0 w).mono ?_
 rintro e w' ⟨rfl,rfl⟩
 exact⟨rfl,z⟩
theorem yb {l:List Tx}(h:l.length< 2):dd l=l:=by
 match l,h with
 | [],_=>rfl
 | [a],_=>rfl
theorem Cz {B:Nat}{w w':World}{g cap n j:Nat}{l:List Tx}{x:Tx}(h:Own B w (.slice (some ⟨g,0,none⟩) n cap) l)(hw:w'=w.setCell ⟨g,j,none⟩ (.string (ab x)))(z:j< l.length):Own B w' (.slice (some ⟨g,0,none⟩) n cap) (l.set j x):=by
 have G:aI 9 B w (.slice (some ⟨g,0,none⟩) n cap) (l.map sv):=by unfold aI;rw [Ju];exact h
 have :=G.set hw (by simpa using z);rw [show Value.string (ab x)=sv x from rfl,<-Mm]at this;unfold aI at this;rw [Ju]at this;exact this
theorem mS {B:Nat}{w:World}{g cap n j:Nat}{l:List Tx}(h:Own B w (.slice (some ⟨g,0,none⟩) n cap) l)(I:j< l.length):w.cell? ⟨g,j,none⟩=some (.string (ab l[j]))/\w.frozen? ⟨g,j,none⟩=false/\n=l.length/\l.length<=cap:=by
 rcases h.2 with⟨G,_⟩ | ⟨g',z,cur,H,J,V,W,h2,h3,h4⟩
 ·cases G
 ·cases H;refine⟨?_,?_,rfl,W⟩
  ·rcases h.strs with⟨G,_⟩ | ⟨b,off,z,H,_,Z⟩
   ·cases G
   ·cases H;have :=Z j _ (IY I)
    rwa [JC]at this
  ·unfold World.frozen?;simp [V]
theorem tP {B:Nat}{w:World}{v:Value}{l:List Tx}(h:Own B w v l)(hl:l.length<=1099511627776){R:Value->World->Prop}
  (hR:∀v' w',Kp w w' (λg=>v.ownBlock=some g)->Strs w' v' (dd l)->(∀g,v'.ownBlock=some g->v.ownBlock=some g)->R v' w'):Calls Tryz.prog 149 #[v] w (an [.v] R):=by
 refine iG v w R ?_;obtain⟨ao,cap,hv⟩:=h.strs.slice;have kx:∀{w1:World},Ex w w1->Kp w w1 (λg=>v.ownBlock=some g):=λx=>Kp.ah x _
 refine⟨ao,_,cap,hv,λhs=>?_,λhs=>?_⟩
 ·have h2:l.length< 2:=by simp only [I0]at hs;omega
  refine hR v w (kx (Ex.refl w)) ?_ λ _ h=>h
  rw [yb h2];exact h.strs
 have h2:2<=l.length:=by simp only [I1]at hs;omega
 obtain⟨g,rfl⟩:∃g,v= .slice (some ⟨g,0,none⟩) l.length cap:=by
  rcases h.2 with⟨_,h0⟩ | ⟨g,cap',cur,η,_⟩
  ·omega
  ·rw [η]at hv;cases hv;exact⟨g,η⟩
 have hcap:=(mS h (j:=0) (by omega)).2.2.2;refine⟨λk w'=>∃n:Nat,k=n/\1<=n/\n<=l.length/\dd (l.take n)=l.take n/\Ex w w',λk _=>(l.length - k).toNat,⟨1,rfl,Jc _,by omega,by rw [yb];rw [JJ];omega,Ex.refl w⟩,λk w8 hI=>?_⟩;obtain⟨z,rfl,hk1,θ,Z,x8⟩:=hI;refine⟨_,_,cap,rfl,λhlt=>?_,λhge=>?_⟩;rotate_left
 ·have:z=l.length:=by simp only [I1]at hge;omega
  rw [this,Jy]at Z;refine hR _ w8 (kx x8) ?_ λ _ h=>h
  rw [Z];exact h.strs.ex x8
 have δ:z< l.length:=by simp only [I0]at hlt;omega
 refine⟨λw'=>Ex w8 w',λw13 ι=>?_⟩;have κ:Ex w8 w13:=ι▸Ex.drew w8;have I:=Ex.trans x8 κ;have o13:=h.ex I;refine⟨κ,g,0,_,cap,rfl,by omega,by omega,l[z],λw' x=>?_,by unfold aj;omega,g,0,_,cap,rfl,by omega,by omega,l[z - 1]'(by omega),λw' x=>?_,λheq=>?_,λJ=>?_⟩
 ·rw [Ja,JE,JC];exact(mS (h.ex (Ex.trans x8 x)) δ).1
 ·rw [show((z:Int) - 1).toNat=z - 1 by omega,JE,JC];exact(mS (h.ex (Ex.trans x8 x)) (by omega)).1
 rotate_left
 ·simp only [I1]at J;refine⟨by unfold aj;omega,⟨z+1,by omega,by omega,by omega,?_,I⟩,by show((l.length:Int) - ((z:Int)+1)).toNat< ((l.length:Int) - z).toNat;omega⟩;rw [Jb δ,jO,Z];unfold AT;have:(l.take z).getLast?≠some l[z]:=λe=>by
   rw [Lk,JJ,LJ θ,KA (by omega),IY (by omega)]at e;exact J (JO e).symm
  rw [Jn this]
 simp only [I0]at heq;have hsl:(if cap=(z:Int).toNat then(some ⟨g,0,none⟩:Option Addr)else Option.map (λx:Addr=>x.add ((z:Int).toNat* 1)) (some ⟨g,0,none⟩))=some ⟨g,z,none⟩:=by
  rw [Jn (by omega),KT,add_plain,Ja,JE,JC]
 refine⟨_,_,cap,rfl,by omega,by omega,by omega,λk kk w'=>∃(n i:Nat) (C:List Tx),k=n/\kk=i/\1<=i/\z+i<=l.length/\n< z+i/\C.length=l.length/\Own B w' (.slice (some ⟨g,0,none⟩) l.length cap) C/\C.take n=dd (l.take (z+i))/\C.drop (z+i - 1)=l.drop (z+i - 1)/\Kp w w' (λb=>(Value.slice (some ⟨g,0,none⟩) l.length cap).ownBlock=some b),
  λ _ kk _=>(l.length - kk).toNat,⟨z,1,l,rfl,rfl,Jc _,by omega,by omega,rfl,o13,?_,rfl,kx I⟩,λk kk V hI=>?_⟩
 ·rw [Jb δ,jO,Z];unfold AT;rw [JB];rw [Lk,JJ,LJ θ,KA (by omega),IY (by omega),heq]
 obtain⟨n,i,C,rfl,rfl,hi1,hi2,hn,hC,G,ht,hd,μ⟩:=hI;have hnC:n<=C.length:=by omega
 rw [hsl];refine⟨_,_,_,rfl,λν=>?_,λξ=>?_⟩
 ·have α:z+i< l.length:=by simp only [I0]at ν;omega
  have e1:C[z+i]'(by omega)=l[z+i]:=by
   have :=Ka (fun(x:List Tx)=>x[1]?) hd;simp only [List.getElem?_drop]at this;rw [show z+i - 1+1=z+i by omega,IY (by omega),IY α]at this;exact JO this
  have e2:C[z+i - 1]'(by omega)=l[z+i - 1]'(by omega):=by
   have :=Ka (fun(x:List Tx)=>x[0]?) hd;simp only [List.getElem?_drop]at this;rw [Lp,IY (by omega),IY (by omega)]at this;exact JO this
  refine⟨λw'=>Ex V w',λο ς=>?_⟩;have β:Ex V ο:=ς▸Ex.drew V;have ε:=G.ex β;have υ:=Kp.trans μ (Kp.ah β λ _=>False) λ _ _ h=>h.elim
  have rd:∀{w':World},Ex V w'->∀j (hj:j< C.length),w'.cell? ⟨g,j,none⟩=some (.string (ab C[j])):=λx j hj=>(mS (G.ex x) hj).1
  have W:(dd (l.take (z+i))).getLast?=some (l[z+i - 1]'(by omega)):=by
   rw [Er,Lk,JJ,LJ hi2,KA (by omega),IY (by omega)]
  have φ:dd (l.take (z+(i+1)))=AT (dd (l.take (z+i))) l[z+i]:=by
   rw [<-Lc,Jb α,jO]
  refine⟨β,g,z,_,_,rfl,by omega,by omega,C[z+i]'(by omega),λw' x=>?_,by unfold aj;omega,g,z,_,_,rfl,by omega,by omega,C[z+i - 1]'(by omega),λw' x=>?_,λJ=>?_,λγ=>?_⟩
  ·rw [Ja,JE];exact rd x _ _
  ·rw [show z+((i:Int) - 1).toNat* 1=z+i - 1 by omega];exact rd x _ _
  ·have χ:l[z+i]≠l[z+i - 1]'(by omega):=by
    rw [<-e1,<-e2];intro e;rw [e]at J;simp at J
   refine⟨g,z,_,_,rfl,by omega,by omega,C[z+i]'(by omega),by rw [Ja,JE];exact rd β _ _,g,0,_,cap,rfl,by omega,by omega,?_,λw57 H=>⟨by unfold aj;omega,by unfold aj;omega,⟨n+1,i+1,C.set n (C[z+i]'(by omega)),by omega,by omega,by omega,by omega,by omega,by simpa using hC,?_,?_,?_,?_⟩,by show((l.length:Int) - ((i:Int)+1)).toNat< ((l.length:Int) - i).toNat;omega⟩⟩
   ·rw [Ja,JE,JC];have :=mS ε (j:=n) (by omega);exact⟨⟨_,this.1⟩,this.2.1⟩
   ·rw [Ja,JE,JC]at H;exact Cz ε H (by omega)
   ·rw [Jb (by simpa using(by omega:n< C.length)),L7 (Jc _),ht,φ];unfold AT;rw [W,Jn (λe=>χ (JO e).symm),List.getElem_set_self,e1]
   ·have:C.drop (z+i)=l.drop (z+i):=by
     have :=Ka (fun(x:List Tx)=>x.drop 1) hd;simp only [LU]at this
     rwa [show z+i - 1+1=z+i by omega]at this
    rw [show z+(i+1) - 1=z+i by omega,List.drop_set_of_lt hn,this]
   ·rw [Ja,JE,JC]at H;exact Kp.trans υ (H▸Kr.set ο n _) λb _ e=>by rw [e];rfl
  ·have ψ:l[z+i]=l[z+i - 1]'(by omega):=by
    rw [<-e1,<-e2];have:decide (C[z+i]'(by omega)=C[z+i - 1]'(by omega))=true:=by
     cases hd:decide (C[z+i]'(by omega)=C[z+i - 1]'(by omega))with
     | true=>rfl
     | false=>rw [hd]at γ;cases γ
    exact Jq this
   refine⟨by unfold aj;omega,⟨n,i+1,C,rfl,by omega,by omega,by omega,by omega,hC,ε,?_,?_,υ⟩,by show((l.length:Int) - ((i:Int)+1)).toNat< ((l.length:Int) - i).toNat;omega⟩
   ·rw [ht,φ];unfold AT;rw [W,JB (by rw [ψ])]
   ·have :=Ka (fun(x:List Tx)=>x.drop 1) hd;simp only [LU]at this;rw [show z+i - 1+1=z+i by omega]at this;rw [show z+(i+1) - 1=z+i by omega];exact this
 ·have α:z+i=l.length:=by simp only [I1]at ξ;omega
  rw [α,Jy]at ht;have hs2:(if cap=(n:Int).toNat then(some ⟨g,0,none⟩:Option Addr)else Option.map (λx:Addr=>x.add ((n:Int).toNat* 1)) (some ⟨g,0,none⟩))=some ⟨g,n,none⟩:=by
   rw [Jn (by omega),KT,add_plain,Ja,JE,JC]
  have hs3:(if cap=(0:Int).toNat then(some ⟨g,0,none⟩:Option Addr)else Option.map (λx:Addr=>x.add ((0:Int).toNat* 1)) (some ⟨g,0,none⟩))=some ⟨g,0,none⟩:=by
   rw [Jn (by have:(0:Int).toNat=0:=rfl;omega),KT,add_plain];rfl
  refine⟨_,_,cap,rfl,by omega,by omega,by omega,_,_,_,rfl,.inr ⟨g,n,hs2,λj hj=>?_,λw66 ω=>⟨_,_,cap,rfl,by omega,by omega,by omega,?_⟩⟩⟩
  ·have :=mS G (j:=n+j) (by omega);exact⟨⟨_,this.1⟩,this.2.1⟩
  rw [hs3];obtain⟨ζ,_,c66,_⟩:=aY (b:=g) (List.replicate (Int.toNat (l.length:Int) - Int.toNat (n:Int)) (.string ⟨#[]⟩)) V n;rw [<-ω]at ζ c66;have hdl:(dd l).length=n:=by rw [<-ht,JJ];omega
  have hb31:=(G.block g rfl).2;have s66:=ζ.size;refine hR _ w66 (Kp.trans μ ζ λb _ e=>by rw [e];rfl) (.inr ⟨g,0,cap,?_,by omega,λj x hx=>?_⟩) λb hb=>by cases hb;rfl
  ·rw [hdl];simp
  ·have hj:j< n:=by
    have :=(JT.1 hx).1;omega
   rw [JC,c66 j hj,(mS G (j:=j) (by omega)).1];rw [<-ht,KA hj,IY (by omega)]at hx;rw [JO hx]
end Go.Proofs.YtdecokaadekjnaaGreat
namespace Go.Proofs.YtdecokaadekjnaaGreat
open Go
set_option maxRecDepth 100000
theorem jr (s1:Value)(v2:ay)(w:World)(R:Int->World->Prop)(h:bE s1 λl4=>fY 0 w λV J z G=>ai (decide (z< (l4:Int))) (aF s1 z λb10 H=>ct G b10 (H+z.toNat* 1) λI=>ai (decide (v2=I)) (R z G) (aj (z+1)/\V (z+1) G/\J (z+1) G< J z G)) (R (-1) G)):
  Calls Tryz.prog 107 #[s1,(.string (ab v2))] w (an [.i] R):=
 a7 (a8 [(2,[(8,.i)])] [] []) [.tmp 4 .i] [.v s1,.s v2] Tryz.func107 (by kernel_rfl) h
theorem gR (s1:Value)(v2:ay)(w:World)(R:Bool->World->Prop)(h:eW 107 #[s1,(.string (ab v2))] w λz G=>R ((decide (0<=z))) G):
  Calls Tryz.prog 63 #[s1,(.string (ab v2))] w (an [.b] R):=
 a7 (a8 [] [] []) [.tmp 4 .b] [.v s1,.s v2] Tryz.func63 (by kernel_rfl) h
theorem qw (p1:ay)(w:World)(R:Value->Bool->World->Prop)(h:gU 135 #[(.string (ab p1))] w λv2 q3 w4=>ai (!q3) (R (.pointer none) false w4) (bH w4 λS5 w6=>az v2 λb7 o8=>gV S5 b7 (o8+1) λs9=>az v2 λb10 o11=>gV S5 b10 (o11+1) λψ=>(aQ w6 (.cells #[(.string (ab ψ))] 9) λω w14=>S5 w14/\aQ w14 (Obj.map #[] 0) λb15 w16=>S5 w16/\oneV (.slice (some ⟨ω,0,none⟩) 1 1)=true/\oneV (.map (some b15))=true/\aQ w16 (.cells #[(.string (ab s9)),(.slice (some ⟨ω,0,none⟩) 1 1),(.map (some b15))] 59) λI w18=>S5 w18/\fY 0 w18 λI19 m20 i21 β=>aS β I 1 λv23=>bE v23 λl25=>ai (decide (i21< (l25:Int))) (aS β I 1 λv27=>aF v27 i21 λb28 o29=>ct β b28 (o29+i21.toNat* 1) λs32=>ch 92 #[(.string (ab s32))] β λv33 w34=>gU 136 #[v33] w34 λυ q36 w37=>ai (!q36) (R (.pointer none) false w37) (bH w37 λφ w39=>ck φ I 2 λv40=>ck φ I 1 λv41=>aF v41 i21 λb42 o43=>gV φ b42 (o43+i21.toNat* 1) λs46=>∃(η:Nat) (m48:Value->Option Value),v40= .map (some η)/\IsMap w39 η .string m48/\∀χ:World,IsMap χ η .string (eo m48 (.string (ab s46)) υ)->cX w39 χ η->bE υ λl51=>fY 0 χ λI53 θ H J=>ai (decide (H< (l51:Int))) (aF υ H λb57 o58=>ct J b57 (o58+H.toNat* 1) λs61=>aS J I 1 λv62=>bO 63 #[v62,(.string (ab s61))] J λq63 ι=>ai (!q63) (aS ι I 1 λv65=>aQ ι (.cells #[(.string (ab s61))] 9) λb66 w67=>fc 9 1 16 w67 v65 (.slice (some ⟨b66,0,none⟩) 1 1) λv73 w74=>oneV v73=true/\bf w74 I 1 v73 λw76=>aj (H+1)/\I53 (H+1) w76/\θ (H+1) w76< θ H J) (aj (H+1)/\I53 (H+1) ι/\θ (H+1) ι< θ H J)) (aS J I 1 λv77=>bE v77 λl79=>ai (decide (60< (l79:Int))) (R (.pointer none) false J) (aj (i21+1)/\I19 (i21+1) J/\m20 (i21+1) J< m20 i21 β)))) (R ((.pointer (some ⟨I,0,none⟩))) true β))/\(aQ w6 (Obj.map #[] 0) λb81 w82=>S5 w82/\aQ w82 (.cells #[(.string (ab ψ))] 9) λb83 w84=>S5 w84/\oneV (.slice (some ⟨b83,0,none⟩) 1 1)=true/\oneV (.map (some b81))=true/\aQ w84 (.cells #[(.string (ab s9)),(.slice (some ⟨b83,0,none⟩) 1 1),(.map (some b81))] 59) λV w86=>S5 w86/\fY 0 w86 λI87 m88 i89 γ=>aS γ V 1 λv91=>bE v91 λl93=>ai (decide (i89< (l93:Int))) (aS γ V 1 λv95=>aF v95 i89 λb96 o97=>ct γ b96 (o97+i89.toNat* 1) λs100=>ch 92 #[(.string (ab s100))] γ λv101 w102=>gU 136 #[v101] w102 λδ q104 κ=>ai (!q104) (R (.pointer none) false κ) (bH κ λε μ=>ck ε V 2 λv108=>ck ε V 1 λv109=>aF v109 i89 λb110 o111=>gV ε b110 (o111+i89.toNat* 1) λs114=>∃(W:Nat) (ν:Value->Option Value),v108= .map (some W)/\IsMap μ W .string ν/\∀ζ:World,IsMap ζ W .string (eo ν (.string (ab s114)) δ)->cX μ ζ W->bE δ λl119=>fY 0 ζ λξ Z z G=>ai (decide (z< (l119:Int))) (aF δ z λb125 o126=>ct G b125 (o126+z.toNat* 1) λο=>aS G V 1 λv130=>bO 63 #[v130,(.string (ab ο))] G λq131 α=>ai (!q131) (aS α V 1 λv133=>aQ α (.cells #[(.string (ab ο))] 9) λb134 w135=>fc 9 1 16 w135 v133 (.slice (some ⟨b134,0,none⟩) 1 1) λv141 w142=>oneV v141=true/\bf w142 V 1 v141 λς=>aj (z+1)/\ξ (z+1) ς/\Z (z+1) ς< Z z G) (aj (z+1)/\ξ (z+1) α/\Z (z+1) α< Z z G)) (aS G V 1 λv145=>bE v145 λl147=>ai (decide (60< (l147:Int))) (R (.pointer none) false G) (aj (i89+1)/\I87 (i89+1) G/\m88 (i89+1) G< m88 i89 γ)))) (R ((.pointer (some ⟨V,0,none⟩))) true γ)))):
  Calls Tryz.prog 90 #[(.string (ab p1))] w (an [.v,.b] R):=
 a7 (a8 [(6,[(7,.i)]),(13,[(68,.i)])] [] [4,11]) [.tmp 2 .v,.tmp 3 .b] [.s p1] Tryz.func90 (by kernel_rfl) h
theorem rM (z:ay)(t2:ay)(w:World)(R:Value->Bool->World->Prop)(h:gU 67 #[(.string (ab z))] w λv3 V I=>ai (!V) (R (.pointer none) false I) (gU 67 #[(.string (ab t2))] I λv6 W J=>ai (!W) (R (.pointer none) false J) ((List.length [40]+z.length<=4611686018427387904)/\(List.length ([40]++z)+List.length [38]<=4611686018427387904)/\(List.length (([40]++z)++[38])+t2.length<=4611686018427387904)/\(List.length ((([40]++z)++[38])++t2)+List.length [41]<=4611686018427387904)/\gU 90 #[(.string (ab (((([40]++z)++[38])++t2)++[41])))] J λv9 G H=>R v9 G H))):
  Calls Tryz.prog 46 #[(.string (ab z)),(.string (ab t2))] w (an [.v,.b] R):=
 a7 (a8 [] [] []) [.tmp 4 .v,.tmp 5 .b] [.s z,.s t2] Tryz.func46 (by kernel_rfl) h
theorem gA (s1:Value)(f2:Value)(w:World)(R:Int->World->Prop)(h:bE s1 λl4=>fY 0 w λZ W z H=>ai (decide (z< (l4:Int))) (aF s1 z λb10 I=>ct H b10 (I+z.toNat* 1) λJ=>∃(f15:Nat) (c16:List Value),f2= .func (.func f15) #[] (List.toArray c16)/\List.contains dC f15=true/\bO f15 (List.toArray ([(.string (ab J))]++c16)) H λV G=>ai V (R z G) (aj (z+1)/\Z (z+1) G/\W (z+1) G< W z H)) (R (-1) H)):
  Calls Tryz.prog 61 #[s1,f2] w (an [.i] R):=
 a7 (a8 [(2,[(8,.i)])] [] []) [.tmp 4 .i] [.v s1,.v f2] Tryz.func61 (by kernel_rfl) h
theorem fA (s1:Value)(f2:Value)(w:World)(R:Bool->World->Prop)(h:eW 61 #[s1,f2] w λz G=>R ((decide (0<=z))) G):
  Calls Tryz.prog 47 #[s1,f2] w (an [.b] R):=
 a7 (a8 [] [] []) [.tmp 4 .b] [.v s1,.v f2] Tryz.func47 (by kernel_rfl) h
theorem mH (s1:Value)(z:Int)(w:World)(R:Bool->World->Prop)(h:az s1 λb3 H=>aS w b3 (H+2) λv5=>az v5 λb6 I=>aS w b6 (I+0) λJ=>bO 188 #[J,(.int .i64 z)] w λV G=>R V G):
  Calls Tryz.prog 141 #[s1,(.int .i64 z)] w (an [.b] R):=
 a7 (a8 [] [] []) [.tmp 4 .b] [.v s1,.i z] Tryz.func141 (by kernel_rfl) h
theorem qt (s1:UInt32)(w:World)(R:ay->World->Prop)(h:Iz ([]) 97 w λJ G z c5 H=>ai (decide (c5<=122)) (EI 59 #[(.int .u8 c5.toNat)] H λV I=>ai (!decide ((s1 &&& V:UInt32)=0)) ((0<=(UInt8.toNat c5:Int)/\(UInt8.toNat c5:Int)< 128)/\(z.length+List.length [UInt8.ofNat (Int.toNat (UInt8.toNat c5:Int))]<=4611686018427387904)/\J ((z++[UInt8.ofNat (Int.toNat (UInt8.toNat c5:Int))])) (c5+1:UInt8) I/\G ((z++[UInt8.ofNat (Int.toNat (UInt8.toNat c5:Int))])) (c5+1:UInt8) I< G z c5 H) (J z (c5+1:UInt8) I/\G z (c5+1:UInt8) I< G z c5 H)) (R z H)):
  Calls Tryz.prog 82 #[(.int .u32 (UInt32.toNat s1))] w (an [.s] R):=
 a7 (a8 [(3,[(3,.s),(4,.c)])] [] []) [.tmp 2 .s] [.w s1] Tryz.func82 (by kernel_rfl) h
theorem mB (s1:Value)(k2:UInt8)(w:World)(R:ay->World->Prop)(h:az s1 λb3 o4=>aS w b3 (o4+2) λv5=>az v5 λb6 o7=>aS w b6 (o7+1) λv8=>bE v8 λο=>Gf 0 0 w λς η δ I β=>ai (decide (I< (ο:Int))) (aF v8 I λυ φ=>aS β υ (φ+I.toNat* 1) λv21=>ch 140 #[v21] β λθ χ=>bE θ λψ=>Gf δ 0 χ λε J G z H=>ai (decide (z< (ψ:Int))) (aF θ z λV W=>∃ι:UInt8,∃κ:Int,∃μ:Int,∃ν:Value,∃ξ:Bool,(World.cell? H ⟨V,(W+z.toNat* 5),none⟩=some (.int .u8 ι.toNat)/\World.cell? H ⟨V,((W+z.toNat* 5)+1),none⟩=some (.int .i64 κ)/\World.cell? H ⟨V,(((W+z.toNat* 5)+1)+1),none⟩=some (.int .i64 μ)/\World.cell? H ⟨V,((((W+z.toNat* 5)+1)+1)+1),none⟩=some ν/\World.cell? H ⟨V,(((((W+z.toNat* 5)+1)+1)+1)+1),none⟩=some (.bool ξ)/\True)/\aQ H (.cells #[(.int .u8 0),(.int .i64 0),(.int .i64 0),(.pointer none),(.bool false)] 160) λγ ω=>vf ω γ 0 5 [(.int .u8 ι.toNat),(.int .i64 κ),(.int .i64 μ),ν,(.bool ξ)] λZ=>fT Z γ 0 λc44=>ai (decide (c44=k2)) (pb Z γ 1 λn45=>bO 141 #[s1,(.int .i64 n45)] Z λq46 α=>ai (!q46) (pb α γ 1 λζ=>0<=(ζ:Int)/\aj (z+1)/\ε ((G ||| (oR 1 ζ.toNat):UInt32)) (z+1) α/\J ((G ||| (oR 1 ζ.toNat):UInt32)) (z+1) α< J G z H) (aj (z+1)/\ε G (z+1) α/\J G (z+1) α< J G z H)) (aj (z+1)/\ε G (z+1) Z/\J G (z+1) Z< J G z H)) (aj (I+1)/\ς G (I+1) H/\η G (I+1) H< η δ I β)) (bg 82 #[(.int .u32 (UInt32.toNat δ))] β λs49 w50=>R s49 w50)):
  Calls Tryz.prog 93 #[s1,(.int .u8 k2.toNat)] w (an [.s] R):=
 a7 (a8 [(3,[(5,.w),(18,.i)]),(6,[(5,.w),(25,.i)])] [] []) [.tmp 4 .s] [.v s1,.c k2] Tryz.func93 (by kernel_rfl) h
theorem tA (s1:ay)(w:World)(R:UInt32->World->Prop)(h:Gf 0 0 w λW I G z H=>ai (decide (z< (s1.length:Int))) ((0<=(z:Int)/\(z:Int)< s1.length)/\EI 59 #[(.int .u8 (UInt8.toNat (bt s1 z.toNat)))] H λJ V=>aj (z+1)/\W (G ||| J:UInt32) (z+1) V/\I (G ||| J:UInt32) (z+1) V< I G z H) (R G H)):
  Calls Tryz.prog 91 #[(.string (ab s1))] w (an [.w] R):=
 a7 (a8 [(3,[(3,.w),(7,.i)])] [] []) [.tmp 2 .w] [.s s1] Tryz.func91 (by kernel_rfl) h
theorem sa (n1:ay)(w:World)(R:Bool->World->Prop)(h:ch 92 #[(.string (ab n1))] w λv2 z=>bg 93 #[v2,(.int .u8 (UInt8.toNat 33))] z λG H=>EI 91 #[(.string (ab G))] H λI J=>EI 59 #[(.int .u8 (UInt8.toNat 119))] J λV W=>R ((!decide ((I &&& V:UInt32)=0))) W):
  Calls Tryz.prog 48 #[(.string (ab n1))] w (an [.b] R):=
 a7 (a8 [] [] []) [.tmp 2 .b] [.s n1] Tryz.func48 (by kernel_rfl) h
end Go.Proofs.YtdecokaadekjnaaGreat
namespace Go.Proofs.YtdecokaadekjnaaGreat
open Go Go.RowKit
theorem Hl {B:Nat}{w:World}{r:Nat}{l:List Tx}{bad:Bool}{M:Nat->Prop}(h:G5 B w r l bad M)(hl:l.length<=1099511627776){R:Value->Bool->World->Prop}
  (V:bad=true->R (.slice none 0 0) false w) (G:bad=false->∀v' w',Kp w w' M->Strs w' v' (dd (aX l))->(∀g,v'.ownBlock=some g->M g)->R v' true w'):Calls Tryz.prog 100 #[ptr r] w (an [.v,.b] R):=by
 refine lD (ptr r) w R ?_;obtain⟨v,W,Z,z⟩:=h.sl;refine⟨r,0,rfl,bad,h.c1,V,λhb=>⟨r,0,rfl,v,W,?_⟩⟩;have α:(aX l).length=l.length:=(aM l).length_eq;by_cases H:l=[]
 ·subst H;have I:v= .slice none 0 0\/∃g cap,v= .slice (some ⟨g,0,none⟩) 0 cap:=by
   rcases Z.2 with⟨h0,_⟩ | ⟨g,cap,cur,J,_⟩
   ·exact .inl h0
   ·exact .inr ⟨g,cap,J⟩
  have hs:∀{R:World->Prop},R w->Calls Tryz.prog 115 #[v] w (an [] R):=λ{R} hR=>by
   rcases I with rfl | ⟨g,cap,rfl⟩
   ·exact En hR
   ·refine(Any.slices_Sort_string_none zd (some ⟨g,0,none⟩) cap w).mono ?_
    rintro e w' ⟨rfl,rfl⟩
    exact⟨rfl,hR⟩
  refine hs ⟨r,0,rfl,v,W,tP Z (by simp) λv' w' k s J=>G hb v' w' (Kp.mono (λg e=>(z g e).1) k) ?_ λg hg=>(z g (J g hg)).1⟩;have:aX []=[]:=Jv α;rw [this];exact s
 ·refine sort_k Z H hl λw8 k8 o8=>⟨r,0,rfl,v,?_,tP o8 (by omega) λv' w' k s J=>G hb v' w' (Kp.trans (Kp.mono (λg e=>(z g e).1) k8) k λg _ e=>(z g e).1) s λg hg=>(z g (J g hg)).1⟩
  rw [IX (w:=w) (k8.block r h.lt λe=>(z r e).2 rfl)];exact W
theorem zz {D:Nat->Prop}{w:World}{v:Value}{o:List Nat}{x:Nat}(h:dW D w v (o.map iv))(hl:o.length<=1099511627776){R:Bool->World->Prop}(H:R (decide (x∈o)) w):
  Calls Tryz.prog 188 #[v,iv x] w (an [.b] R):=by
 refine jF v x w R ?_;refine mI v x w _ ?_;obtain⟨W,cap,V⟩:=h.slice;rw [Ju]at V;refine⟨W,_,cap,V,λi w'=>∃j:Nat,i=j/\j<=o.length/\w'=w/\x∉o.take j,λi _=>(o.length - i).toNat,⟨0,rfl,JS _,rfl,by simp⟩,λi w' Z=>?_⟩;obtain⟨j,rfl,hj,rfl,hm⟩:=Z;refine⟨λI=>?_,λJ=>?_⟩
 ·have z:j< o.length:=by simp only [I0]at I;omega
  refine h.HA (i:=j) (x:=o[j]) (by omega) (by rw [Ja];exact IY z) (Q:=λn=>_) ⟨λhe=>?_,λG=>?_⟩
  ·have he:x=o[j]:=by simp only [I0]at he;omega
   show R (decide (0<=(j:Int))) _;rw [Ke (show(0:Int)<=(j:Int) by omega)];rw [Ke (show x∈o by rw [he];exact Jd z)]at H;exact H
  ·have G:x≠o[j]:=by simp only [I1]at G;omega
   refine⟨by unfold aj;omega,⟨j+1,by omega,by omega,rfl,?_⟩,by show((o.length:Int) - ((j:Int)+1)).toNat< ((o.length:Int) - j).toNat;omega⟩;rw [Jb z,Jf,Jg];exact λh=>h.elim hm G
 ·have:j=o.length:=by simp only [I1]at J;omega
  rw [this,Jy]at hm;show R (decide ((0:Int)<= -1)) _;rw [Kk (show ¬(0:Int)<= -1 by omega)];rw [Kk hm]at H;exact H
theorem Ag {w:World}{v:Value}{l:List Tx}{x:Tx}(h:Strs w v l)(hl:l.length<=1099511627776){R:Bool->World->Prop}(I:R (decide (x∈l)) w):
  Calls Tryz.prog 63 #[v,.string (ab x)] w (an [.b] R):=by
 refine gR v x w R ?_;refine jr v x w _ ?_;obtain⟨Z,cap,hv⟩:=h.slice;refine⟨Z,_,cap,hv,λi w'=>∃j:Nat,i=j/\j<=l.length/\w'=w/\x∉l.take j,λi _=>(l.length - i).toNat,⟨0,rfl,JS _,rfl,by simp⟩,λi w' hI=>?_⟩;obtain⟨j,rfl,hj,rfl,hm⟩:=hI;refine⟨λJ=>?_,λV=>?_⟩
 ·have z:j< l.length:=by simp only [I0]at J;omega
  obtain⟨b,off,H,W,_,hc⟩:=h.at z;refine⟨b,off,_,H,W,by omega,by omega,l[j],by rw [Ja,JE];exact hc,λhe=>?_,λG=>?_⟩
  ·have he:x=l[j]:=by simpa using he
   show R (decide (0<=(j:Int))) _;rw [Ke (show(0:Int)<=(j:Int) by omega)];rw [Ke (show x∈l by rw [he];exact Jd z)]at I;exact I
  ·have G:x≠l[j]:=by simpa using G
   refine⟨by unfold aj;omega,⟨j+1,by omega,by omega,rfl,?_⟩,by show((l.length:Int) - ((j:Int)+1)).toNat< ((l.length:Int) - j).toNat;omega⟩;rw [Jb z,Jf,Jg];exact λh=>h.elim hm G
 ·have:j=l.length:=by simp only [I1]at V;omega
  rw [this,Jy]at hm;show R (decide ((0:Int)<= -1)) _;rw [Kk (show ¬(0:Int)<= -1 by omega)];rw [Kk hm]at I;exact I
theorem Gw {D:Nat->Prop}{w:World}{s n x nm:Nat}{o:List Nat}{l:Lv}{c0 c1 c4 vr:Value}(η:Mk w s n)(h:fS D w vr o (af D w l))(hD:∀g,D g->g≠s)(ψ:l.sh true=true)(ω:tr o l)(hnn:n+o.length+l.bvs.length<=4294967296)(θ:o.length+l.tot<=4294967296){R:Value->World->Prop}
  (hR:∀v' w' F' n',Km s w w'->Mk w' s n'->Rn n n' (o++l.bvs) (aE id x nm) F'->aB (yQ w) w' (o.map F',l.map F') v'->R v' w'):
  Calls Tryz.prog 177 #[ptr s,.agg (List.toArray [c0,c1,iv x,vr,c4]),iv nm] w (an [.v] R):=by
 refine jP (ptr s) _ nm w R ?_;refine⟨_,rfl,λb5 H ι α=>⟨λw'=>Kp H w' (λg=>g=s\/H.heap.size<=g),λw8 κ=>?_⟩⟩;have x6:Ex w H:=α▸Ex.alloc w _;have s6:H.heap.size=w.heap.size+1:=by rw [α,size_alloc]
 have x8:Ex H w8:=κ▸Ex.drew H;have s8:w8.heap.size=H.heap.size:=by rw [κ];rfl
 have μ:=η.lt;have ν:¬(b5=s\/H.heap.size<=b5):=λe=>by rcases e with e | e<;>omega
 have d3:H.cell? ⟨b5,3,none⟩=some vr:=by rw [α,ι];exact aa rfl
 have d2:H.cell? ⟨b5,2,none⟩=some (iv x):=by rw [α,ι];exact aa rfl
 have l5:b5< H.heap.size:=by omega
 refine⟨Kp.ah x8 _,s,0,rfl,vr,λw' k=>by rw [IX (w:=H) (k.block b5 l5 ν)];exact d3,x,λw' k=>by rw [IX (w:=H) (k.block b5 l5 ν)];exact d2,λβ γ ξ I=>?_⟩;have δ:Ex w8 γ:=I▸Ex.alloc w8 _;have s14:γ.heap.size=w8.heap.size+1:=by rw [I,size_alloc]
 have ο:IsMap γ β (.int .i64) (dF []):=⟨#[],0,by rw [I,ξ];unfold World.alloc;simp,⟨by simp,by simp,by simp⟩,by simp,λq=>rfl⟩
 refine⟨Kp.ah (Ex.trans x8 δ) _,β,_,rfl,ο,λJ ς G=>?_⟩;have ζ:Kp γ J (λg=>g=β):=⟨G.os,G.tape,G.output,by rw [G.size];exact Jc _,λg _ Z=>G.block g Z⟩
 have s17:=ζ.size;have ε:Kp H J (λg=>g=s\/H.heap.size<=g):=Kp.trans (Kp.ah (Ex.trans x8 δ) _) ζ λg _ e=> .inr (by omega)
 have V:Ex w J:=Ex.below (Ex.trans (Ex.trans x6 x8) δ) (Kp.below ζ (Ex.trans (Ex.trans x6 x8) δ).size λg Z e=>by omega);refine⟨ε,?_⟩;have υ:jn J β (aE id x nm):=rN (F:=id) (λz=> .inr ⟨rfl,rfl⟩) ς;have h':fS (λg=>D g/\g< w.heap.size) w vr o (af (λg=>D g/\g< w.heap.size) w l):=aB.sub (L:=(o,l)) h λg Z hd=>⟨hd,Z⟩
 refine DI _ (Jc _) ψ (fS.ex h' V) (λg Z e=>?_) ω (η.ex V) υ (by omega) hnn θ λv18 w19 F' n' W φ mf19 χ l19=>?_
 ·rcases e with e | e
  ·exact hD g Z.1 e
  ·omega
 ·have s19:=W.size;refine⟨Kp.trans ε (Kp.mono (λg e=>e) W.kp) λg Z e=>e.elim .inl λe=> .inr (by omega),hR v18 w19 F' n' ⟨?_,λj hj=>?_,λj=>?_⟩ φ χ (aB.sub l19 λg _ Z=>by show w.heap.size<=g;have:J.heap.size<=g:=Z;omega)⟩
  ·exact Kp.trans (Kp.ah V _) W.kp λg Z e=>e.elim id λe=>by omega
  ·rw [W.ce j hj,V.cell (show s< _ from μ)]
  ·rw [W.fz j,Kx V μ]
theorem ya {X:Type}(P:Nat->Bool)(x:X):∀(l:List X) (k:Nat),jZ P (l++[x]) k=jZ P l k++if P (k+l.length)then []else [x]
 | [],k=>by rw [JW,cd,jt];simp [jt]
 | y::l,k=>by
  rw [JZ,cd,cd,ya P x l (k+1),IW,show k+1+l.length=k+(l.length+1) by omega];split<;>simp
def elsL:List Lv->Lv
 | []=> .nil
 | e::r=>e.app (elsL r)
theorem ye:∀l m:List Lv,elsL (l++m)=(elsL l).app (elsL m)
 | [],m=>rfl
 | e::l,m=>by simp only [JZ,elsL,ye l m,Lv.cB]
theorem Du (e:Lv):elsL [e]=e:=Lv.aW e
theorem qZ {X:Type}{P:Nat->Bool}:∀{l:List X} {k:Nat} {x:X},x∈jZ P l k->x∈l
 | [],k,x,h=>by rw [jt]at h;cases h
 | y::l,k,x,h=>by
  rw [cd]at h;split at h
  ·exact Jj _ (qZ h)
  ·rcases Jm.1 h with rfl | h
   ·exact JK ..
   ·exact Jj _ (qZ h)
theorem u7 {X:Type}(P:Nat->Bool):∀(l:List X) (k:Nat),(jZ P l k).Sublist l
 | [],k=>by rw [jt];exact J8 _
 | y::l,k=>by
  rw [cd];split
  ·exact(u7 P l (k+1)).trans (List.sublist_cons_self ..)
  ·exact(u7 P l (k+1)).cons_cons y
def nH (l:List Lv):Nat:=(l.map Lv.tot).sum
theorem kV:∀l:List Lv,(elsL l).tot=nH l
 | []=>rfl
 | e::l=>by simp only [elsL,Lv.bT,kV l,nH,JA,J']
theorem yq {l m:List Lv}(h:l.Sublist m):nH l<=nH m:=by
 induction h with
 | slnil=>exact Jc _
 | cons a _ z=>simp only [nH,JA,J']at*;omega
 | cons_cons a _ z=>simp only [nH,JA,J']at*;omega
theorem nZ:∀l:Lv,elsL l.bk=l
 | .nil=>rfl
 | .thr k a b o r n=>by simp only [Lv.bk,elsL,nZ n,Lv.app]
 | .sum z n=>by simp only [Lv.bk,elsL,nZ n,Lv.app]
 | .part o q n=>by simp only [Lv.bk,elsL,nZ n,Lv.app]
theorem As {b:Bool}:∀{l:List Lv},(∀e∈l,e.sh b=true)->(elsL l).sh b=true
 | [],_=>by cases b<;>rfl
 | e::l,h=>Lv.gD (h e (by simp)) (As λx z=>h x (by simp [z]))
theorem Fi:∀{l:Lv},l.sh true=true->∀e∈l.bk,e.sh true=true:=λ{l} h e he=>by
 rcases Lv.jz h e he with⟨k,a,b,o,r,rfl,hr⟩ | ⟨G,rfl,z⟩
 ·simp only [Lv.sh,hr,Ks]
 ·simp only [Lv.sh,z,Ks]
theorem xF:∀{l:List (List Nat×Lv)},(∀x∈l,x.2.sh true=true)->(joinL l).2.sh true=true
 | [],_=>rfl
 | x::l,h=>Lv.gD (h x (by simp)) (xF λy z=>h y (by simp [z]))
theorem ly:∀(l:List (List Nat×Lv)) (j:Nat),(joinL (l.take j)).1.length<=(joinL l).1.length/\(joinL (l.take j)).2.tot<=(joinL l).2.tot
 | [],j=>by simp [joinL]
 | x::l,0=>by simp [joinL,Lv.tot]
 | x::l,j+1=>by
  obtain⟨z,G⟩:=ly l j;simp only [List.take_succ_cons,joinL,I',Lv.bT];omega
theorem Ea {D:Nat->Prop}{w:World}{s:Nat}{O:List Nat}{l:Lv}{vl vg vo vm:Value}{gl:List Nat}{ms:List (List Nat×Lv)}{mvs:List Value}(hcl:w.cell? ⟨s,2,none⟩=some vl)(hls:s< w.heap.size)(hl:aB D w (O,l) vl)(G:dW D w vg (gl.map iv))(hgl:gl.length<=1000)(ho:dW D w vo (O.map iv))(hm:dW D w vm mvs)
  (hms:aK (λL v=>aB D w L v) ms mvs) (hml:mvs.length<=1000) (hsh:l.sh true=true) (hmsh:∀x∈ms,x.2.sh true=true) (htot:O.length+(joinL ms).1.length+(l.tot+(joinL ms).2.tot)<=4294967295)
  {P:Nat->Bool} (hP:∀i,P i=decide (i∈gl)) {res:List Nat×Lv} (θ:res=(O++(joinL ms).1,(elsL (jZ P l.bk 0)).app (joinL ms).2)) (huq:tr (Lv.tidy res.1 res.2).1 (Lv.tidy res.1 res.2).2) (hfr:∀x,x∉(Lv.tidy res.1 res.2).1->(Lv.tidy res.1 res.2).2.fh x->x< 26)
  {R:ay->Bool->World->Prop} (hR:∀w',Ex w w'->(∀s,zk (Lv.tidy res.1 res.2)=some s->R s true w')/\(zk (Lv.tidy res.1 res.2)=none->R [] false w')):
  Calls Tryz.prog 176 #[ptr s,vg,vo,vm] w (an [.s,.b] R):=by
 refine mw (ptr s) vg vo vm w R ?_;refine vQ ho (by omega) λv5 w6 x6 φ=>⟨φ.j9,λb7 w8 hb7 ι=>?_⟩
 have x8':Ex w6 w8:=ι▸Ex.alloc w6 _;have x8:=Ex.trans x6 x8';have s8:w8.heap.size=w6.heap.size+1:=by rw [ι,size_alloc]
 have s6:=x6.size;have bd8:jW w.heap.size w8 b7 O [] λg=>g=b7\/v5.ownBlock=some g:=by
  refine⟨by omega,by omega,.inl rfl,λg G=>?_,λj=>?_,v5,.slice none 0 0,?_,?_,φ.kp (Kp.ah x8' λ _=>False) (λ _ _ h=>h),aI.nil _ _ _,λg G=>⟨.inr G,?_⟩,λg G=>(by cases G),λg _ G=>(by cases G)⟩
  ·rcases G with rfl | G
   ·omega
   ·have :=φ.block g G;omega
  ·rw [ι,hb7];exact aN _ _ _ _
  ·rw [ι,hb7];exact aa rfl
  ·rw [ι,hb7];exact aa rfl
  ·have :=φ.block g G;omega
 obtain⟨bl,vo',vt,ts,rfl,h2,h3,h4,h5,h6,h7,h8⟩:=aB.sub (E:=λg=>g< w.heap.size) hl λg G _=>G
 obtain⟨at_,capt,hvt⟩:=h7.slice;have hlen:ts.length=l.len:=h8.len;have hel:=Lv.cK l;have hlt:=bS l;have κ:∀i,nH (jZ P (l.bk.take i) 0)<=l.tot:=λi=>by
  have h1:=yq ((u7 P (l.bk.take i) 0).trans (List.take_sublist i l.bk));have h2:=kV l.bk;rw [nZ]at h2;omega
 refine⟨s,0,rfl,ptr bl,by rw [x8.cell (show s< _ from hls)];exact hcl,bl,0,rfl,vt,by rw [x8.cell (show bl< _ from h3)];exact h5,at_,_,capt,hvt,λx w'=>∃(i:Nat) (J:List Value) (M:Nat->Prop),x=i/\i<=ts.length/\Ex w w'/\jW w.heap.size w' b7 O J M/\af (λg=>g< w.heap.size) w' (elsL (jZ P (l.bk.take i) 0)) J,
  λx _=>(ts.length - x).toNat,⟨0,[],_,rfl,JS _,x8,bd8,by rw [List.take_zero,jt];rfl⟩,λx χ hI=>?_⟩
 obtain⟨i,J,M,rfl,hi,γ,H,V⟩:=hI;have hl1:J.length<=l.tot:=by
  have h1:=V.len;have h2:=bS (elsL (jZ P (l.bk.take i) 0));rw [kV]at h2;have :=κ i;omega
 refine⟨λhlt1=>?_,λhge1=>?_⟩
 ·have δ:i< ts.length:=by simp only [I0]at hlt1;omega
  have hie:i< l.bk.length:=by omega
  obtain⟨bt,ot,z,hvt',hct⟩:∃bt ot z,vt= .slice (some ⟨bt,ot,none⟩) ts.length z/\χ.cell? ⟨bt,ot+i,none⟩=some ts[i]:=by
   rcases h7 with⟨_,h0⟩ | ⟨bt,ot,z,e,hbD,hb',W⟩
   ·rw [h0]at δ;simp at δ
   ·exact⟨bt,ot,z,e,by rw [γ.cell (show bt< _ from hb')];exact W i _ (IY δ)⟩
  obtain⟨e,he1,he2,he3⟩:=aK.single h8.bk (IY δ);have he4:l.bk[i]=e:=by rw [IY hie]at he1;exact JO he1
  have hts:jZ P (l.bk.take (i+1)) 0=jZ P (l.bk.take i) 0++if P i then []else [e]:=by
   rw [Jb hie,ya,he4,JC,JJ,LJ (by omega)]
  refine⟨bt,ot,_,z,hvt',by omega,by omega,ts[i],by rw [Ja,JE];exact hct,zz (G.ex γ) (by omega) ?_⟩;have hPi:=hP i;refine⟨λhq=>?_,λhq=>⟨by unfold aj;omega,⟨i+1,J,M,by omega,by omega,γ,H,?_⟩,by show((ts.length:Int) - ((i:Int)+1)).toNat< ((ts.length:Int) - i).toNat;omega⟩⟩;rotate_left
  ·have hPt:P i=true:=by rw [hPi];cases h:decide (i∈gl)<;>first | rfl | (rw [h]at hq;cases hq)
   rw [hts,JB hPt,JD];exact V
  have hPt:P i=false:=by rw [hPi];cases h:decide (i∈gl)<;>first | rfl | (rw [h]at hq;cases hq)
  obtain⟨vo1,ψ,d0,d1,d2,d3,d4,d5,d6⟩:=H.sl;have μ:=he3.all;simp only [Kb,LC,Ld]at μ;refine⟨ψ,d1,μ,λb30 ε hb30 ν=>?_⟩;have ξ:Ex χ ε:=ν▸Ex.alloc χ _;have s31:ε.heap.size=χ.heap.size+1:=by rw [ν,size_alloc]
  have s21:=γ.size;have ο:=H.ex ξ;refine aI.push (d3.kp (Kp.ah ξ λ _=>False) λ _ _ h=>h) (by omega) (m:=[ts[i]]) (D:=λ _=>True) (.inr ⟨b30,0,1,rfl,trivial,by omega,λi' y hy=>?_⟩) (by simp only [Kb,LC,Ld];exact μ) (by omega) (by simp only [IW,Jh];omega) λv37 w38 ho38 hg38 hn38=>?_
  ·cases i' with
   | zero=>simp only [Kc,Kj]at hy;subst hy;rw [ν,hb30];exact aa rfl
   | succ i=>simp at hy
  have k38:Kp ε w38 λg=>ψ.ownBlock=some g:=Kp.aR hg38 λ _ h=>h
  have e7:=k38.block b7 ο.lt λe=>(d5 b7 e).2 rfl
  have c71:ε.cell? ⟨b7,1,none⟩=some ψ:=by rw [ξ.cell (show b7< _ from H.lt)];exact d1
  refine⟨ho38.j9,⟨⟨ψ,by rw [IX (w:=ε) e7];exact c71⟩,by rw [Jz (w:=ε) e7];exact ο.fr 1⟩,λw40 hw40=>⟨by unfold aj;omega,?_,by show((ts.length:Int) - ((i:Int)+1)).toNat< ((ts.length:Int) - i).toNat;omega⟩⟩;obtain⟨bd40,k40⟩:=ο.HY c71 k38 ho38 hn38 hw40;have ς:=Ex.trans γ ξ;have x40:Ex w w40:=Ex.below ς (Kp.below k40 ς.size λg G hM=>by have :=(H.mr g hM).1;omega);refine⟨i+1,J++[ts[i]],_,by omega,by omega,x40,bd40,?_⟩;rw [hts,Jn (by rw [hPt];simp),ye,Du];exact af.app (af.kp k40 (λg G hM=>by have :=(H.mr g hM).1;omega) (af.ex V ξ)) (af.ex he3 x40)
 ·have δ:i=l.bk.length:=by simp only [I1]at hge1;omega
  rw [δ,Jy]at V;obtain⟨am,capm,hvm⟩:=hm.slice;have hl2:J.length<=l.tot:=hl1;have hmsl:=hms.1;refine⟨am,_,capm,hvm,λx w'=>∃(j:Nat) (ω:List Value) (M2:Nat->Prop),x=j/\j<=mvs.length/\Ex w w'/\jW w.heap.size w' b7 (O++(joinL (ms.take j)).1) ω M2/\af (λg=>g< w.heap.size) w' ((elsL (jZ P l.bk 0)).app (joinL (ms.take j)).2) ω,λx _=>(mvs.length - x).toNat,⟨0,J,M,rfl,JS _,γ,by simpa [joinL]using H,by simpa [joinL,Lv.aW]using V⟩,λx υ hI=>?_⟩;obtain⟨j,ω,M2,rfl,hj,ζ,I,β⟩:=hI;refine⟨λhlt2=>?_,λhge2=>?_⟩
  ·have η:j< mvs.length:=by simp only [I0]at hlt2;omega
   obtain⟨bm,om,Z,hvm',hcm⟩:∃bm om Z,vm= .slice (some ⟨bm,om,none⟩) mvs.length Z/\υ.cell? ⟨bm,om+j,none⟩=some mvs[j]:=by
    rcases hm with⟨_,h0⟩ | ⟨bt,ot,z,e,hbD,hb',W⟩
    ·rw [h0]at η;simp at η
    ·exact⟨bt,ot,z,e,by rw [ζ.cell (show bt< _ from hb')];exact W j _ (IY η)⟩
   obtain⟨L,hL1,hL2,hL3⟩:=aK.single hms (IY η);have hjm:j< ms.length:=by omega
   have hL4:ms[j]=L:=by rw [IY hjm]at hL1;exact JO hL1
   have α:joinL (ms.take (j+1))=((joinL (ms.take j)).1++L.1,(joinL (ms.take j)).2.app L.2):=by
    rw [Jb hjm,pA,hL4,pO]
   obtain⟨k1,k2⟩:=ly ms (j+1);rw [α]at k1 k2;simp only [I',Lv.bT]at k1 k2;obtain⟨ts3,hl3,ht3⟩:=aB.ths (aB.ex (aB.sub (E:=λg=>g< w.heap.size) hL3 λg G _=>G) ζ);have h47:=β.len;have h47':=bS ((elsL (jZ P l.bk 0)).app (joinL (ms.take j)).2);rw [Lv.bT,kV]at h47';have hp:=κ l.bk.length;rw [Jy]at hp;have h3l:=ht3.len;have h3t:=bS L.2;refine⟨bm,om,_,Z,hvm',by omega,by omega,mvs[j],by rw [Ja,JE];exact hcm,rQ I ζ.size hl3 ht3.all (λg G hM=>by have :=(I.mr g hM).1;omega) ⟨by simp only [I'];omega,by omega⟩ λw53 M3 k53 bd53 _=>⟨by unfold aj;omega,?_,by show((mvs.length:Int) - ((j:Int)+1)).toNat< ((mvs.length:Int) - j).toNat;omega⟩⟩;have x53:Ex w w53:=Ex.below ζ (Kp.below k53 ζ.size λg G hM=>by have :=(I.mr g hM).1;omega);refine⟨j+1,ω++ts3,M3,by omega,by omega,x53,?_,?_⟩
   ·rw [α,<-JH];exact bd53
   ·rw [α,<-Lv.cB];exact af.app (af.kp k53 (λg G hM=>by have :=(I.mr g hM).1;omega) β) (af.kp k53 (λg G hM=>by have :=(I.mr g hM).1;omega) ht3)
  ·have η:j=ms.length:=by simp only [I1]at hge2;omega
   rw [η,Jy]at I β;have hp:=κ l.bk.length;rw [Jy]at hp;have hLv:fS (λg=>g< υ.heap.size) υ (ptr b7) res.1 (af (λg=>g< υ.heap.size) υ res.2):=by
    rw [θ];exact I.H5 (λg G _=>G) (af.sub (λg G _=>G) β)
   refine tW hLv ?_ ?_ huq hfr λw56 x56=>hR w56 (Ex.trans ζ x56)
   ·rw [θ];exact Lv.gD (As λe he=>Fi hsh e (qZ he)) (xF hmsh)
   ·rw [θ];simp only [I',Lv.bT,kV];omega
def cD (B:Nat)(w:World)(v:Value)(n:Nat)(xs:List Value):Prop:=w.ownsRow B 160 5 v n xs
theorem cD.nil (B:Nat)(w:World):cD B w (.slice none 0 0) 0 []:=World.ownsRow_nil _ _ _ _
theorem cD.block {B:Nat}{w:World}{v:Value}{n:Nat}{xs:List Value}(h:cD B w v n xs):∀b,v.ownBlock=some b->B<=b/\b< w.heap.size:=L5 h
theorem cD.kp {B:Nat}{w w':World}{S:Nat->Prop}{v:Value}{n:Nat}{xs:List Value}(h:cD B w v n xs)(k:Kp w w' S)(G:∀g,v.ownBlock=some g->¬S g):cD B w' v n xs:=by
 refine⟨h.1,?_⟩;rcases h.2 with H | ⟨g,cap,cur,rfl,hb,z,rest⟩
 ·exact .inl H
 ·exact .inr ⟨g,cap,cur,rfl,hb,by rw [k.block g (JM.1 z).1 (G g rfl)];exact z,rest⟩
theorem cD.ex {B:Nat}{w w':World}{v:Value}{n:Nat}{xs:List Value}(h:cD B w v n xs)(x:Ex w w'):cD B w' v n xs:=h.kp (Kp.ah x λ _=>False) λ _ _ h=>h
theorem cD.mono {B z:Nat}{w:World}{v:Value}{n:Nat}{xs:List Value}(h:cD B w v n xs)(hb:z<=B):cD z w v n xs:=Me h hb
theorem cD.zero {w w':World}{B b:Nat}(hB:B<=w.heap.size)(hb:b=w.heap.size)(h:w'=w.alloc (.cells #[] 160)):cD B w' (.slice (some ⟨b,0,none⟩) 0 0) 0 []:=by
 subst hb h;refine⟨rfl,.inr ⟨_,0,#[],rfl,hB,?_,by simp,by unfold maxLen;omega,rfl,rfl⟩⟩;unfold World.alloc;simp
theorem cD.one {w w':World}{B b:Nat}{cs:List Value}(z:cs.length=5)(hB:B<=w.heap.size)(hb:b=w.heap.size)(h:w'=w.alloc (.cells cs.toArray 160)):cD B w' (.slice (some ⟨b,0,none⟩) 1 1) 1 cs:=by
 subst hb h;refine⟨by rw [z],.inr ⟨_,1,cs.toArray,rfl,hB,?_,by simp,by unfold maxLen;omega,by simp [z],LA (by simp [z])⟩⟩;unfold World.alloc;simp
theorem cD.cell {B:Nat}{w:World}{v:Value}{n:Nat}{xs:List Value}(h:cD B w v n xs):(v= .slice none 0 0/\n=0/\xs=[])\/∃g cap,v= .slice (some ⟨g,0,none⟩) n cap/\g< w.heap.size/\∀j u,xs[j]?=some u->w.cell? ⟨g,0+j,none⟩=some u:=by
 have z:=h.1;rcases h.2 with⟨I,G⟩ | ⟨g,cap,cur,rfl,hb,H,V,W,Z,h4⟩
 ·left;refine⟨I,G,Jv (by rw [z,G])⟩
 ·refine .inr ⟨g,cap,rfl,(JM.1 H).1,λj u hu=>?_⟩;have J:j< xs.length:=(JT.1 hu).1;unfold World.cell?;simp only [H,JC];rw [<-h4,KA (by rw [<-z];exact J),KK]at hu;exact hu
theorem cD.src {B:Nat}{w:World}{v:Value}{n:Nat}{xs:List Value}(h:cD B w v n xs)(ha:xs.all oneV=true):dK w v n 5 xs:=by
 refine⟨h.1,ha,?_⟩;rcases h.cell with⟨rfl,rfl,_⟩ | ⟨g,cap,rfl,_,z⟩
 ·exact .inl ⟨rfl,rfl⟩
 ·exact .inr ⟨g,0,cap,rfl,z⟩
theorem cD.push {B:Nat}{w:World}{v x:Value}{n m:Nat}{xs G:List Value}(h:cD B w v n xs)(hB:B<=w.heap.size)(H:dK w x m 5 G)(W:n+m<=1099511627776){K:Value->World->Prop}
  (I:∀v' w',cD B w' v' (n+m) (xs++G)->w.grownBy w' v.ownBlock->(∀b,v'.ownBlock=some b->v.ownBlock=some b\/w.heap.size<=b)->K v' w'):
  ∃(base n' m':Nat) (z news:List Value),World.ownsRow w base 160 5 v n' z/\base<=Array.size (World.heap w)/\dK w x m' 5 news/\(n'+m'<=maxLen/\(n'+m')* 40<=140737488355328)/\
   ∀(v':Value) (w':World),World.ownsRow w' base 160 5 v' (n'+m') (z++news)->World.grownBy w w' (Value.ownBlock v)->(∀b:Nat,Value.ownBlock v'=some b->Value.ownBlock v=some b\/Array.size (World.heap w)<=b)->K v' w':=
 ⟨B,n,m,xs,G,h,hB,H,⟨by unfold maxLen;omega,by omega⟩,λv' w' J V hw=>I v' w' J V hw⟩
def cO (k:UInt8)(a b:Nat)(vr:Value)(s:Bool):List Value:=[.int .u8 k.toNat,iv a,iv b,vr,.bool s]
def ky (D:Nat->Prop)(w:World):Off Nat->List Value->Prop
 | .tau p,cs=>∃a b vr s,cs=cO 126 a b vr s/\aB D w (td p) vr
 | .snd a b p,cs=>∃vr s,cs=cO 33 a b vr s/\aB D w (td p) vr
 | .rcv a x q s,cs=>∃vr,cs=cO 63 a x vr s/\aB D w (td q) vr
theorem ky.ex {D:Nat->Prop}{w w':World}{o:Off Nat}{cs:List Value}(h:ky D w o cs)(x:Ex w w'):ky D w' o cs:=by
 cases o with
 | tau p=>obtain⟨a,b,vr,s,z,G⟩:=h;exact⟨a,b,vr,s,z,aB.ex G x⟩
 | snd a b p=>obtain⟨vr,s,z,G⟩:=h;exact⟨vr,s,z,aB.ex G x⟩
 | rcv a b p s=>obtain⟨vr,z,G⟩:=h;exact⟨vr,z,aB.ex G x⟩
theorem ky.kp {D S:Nat->Prop}{w w':World}{o:Off Nat}{cs:List Value}(h:ky D w o cs)(k:Kp w w' S)(H:∀g,D g->¬S g):ky D w' o cs:=by
 cases o with
 | tau p=>obtain⟨a,b,vr,s,z,G⟩:=h;exact⟨a,b,vr,s,z,aB.kp G k H⟩
 | snd a b p=>obtain⟨vr,s,z,G⟩:=h;exact⟨vr,s,z,aB.kp G k H⟩
 | rcv a b p s=>obtain⟨vr,z,G⟩:=h;exact⟨vr,z,aB.kp G k H⟩
theorem ky.len {D:Nat->Prop}{w:World}{o:Off Nat}{cs:List Value}(h:ky D w o cs):cs.length=5/\cs.all oneV=true:=by
 cases o with
 | tau p=>obtain⟨a,b,vr,s,rfl,z⟩:=h;exact⟨rfl,by have :=z.one;simp only [cO,Kb,LC,Ld,this];rfl⟩
 | snd a b p=>obtain⟨vr,s,rfl,z⟩:=h;exact⟨rfl,by have :=z.one;simp only [cO,Kb,LC,Ld,this];rfl⟩
 | rcv a b p s=>obtain⟨vr,rfl,z⟩:=h;exact⟨rfl,by have :=z.one;simp only [cO,Kb,LC,Ld,this];rfl⟩
def OffsM (D:Nat->Prop)(w:World):List (Off Nat)->List Value->Prop
 | [],xs=>xs=[]
 | o::os,xs=>∃cs z,xs=cs++z/\ky D w o cs/\OffsM D w os z
section
variable {D S:Nat->Prop} {w w':World}
theorem OffsM.kp (k:Kp w w' S)(z:∀g,D g->¬S g):∀{os:List (Off Nat)} {xs:List Value},OffsM D w os xs->OffsM D w' os xs
 | [],_,h=>h
 | _::_,_,⟨cs,G,H,I,J⟩=>⟨cs,G,H,I.kp k z,OffsM.kp k z J⟩
theorem OffsM.ex {os:List (Off Nat)}{xs:List Value}(h:OffsM D w os xs)(x:Ex w w'):OffsM D w' os xs:=OffsM.kp (Kp.ah x λ _=>False) (λ _ _ h=>h) h
theorem OffsM.app:∀{os z:List (Off Nat)} {xs G:List Value},OffsM D w os xs->OffsM D w z G->OffsM D w (os++z) (xs++G)
 | [],_,_,_,h,k=>by cases h;exact k
 | _::_,_,_,_,⟨cs,zs,H,I,J⟩,k=>by subst H;exact⟨cs,zs++_,by rw [JH],I,OffsM.app J k⟩
theorem OffsM.len:∀{os:List (Off Nat)} {xs:List Value},OffsM D w os xs->xs.length=os.length* 5/\xs.all oneV=true
 | [],_,h=>by cases h;exact⟨rfl,rfl⟩
 | o::os,_,⟨cs,Z,z,G,H⟩=>by
  subst z;obtain⟨I,J⟩:=G.len;obtain⟨V,W⟩:=OffsM.len H;refine⟨by rw [I',I,V,IW];omega,by rw [Lm,J,W];rfl⟩
theorem OffsM.at:∀{os:List (Off Nat)} {xs:List Value},OffsM D w os xs->∀{i:Nat} (G:i< os.length),∃cs,ky D w os[i] cs/\∀j,j< 5->xs[i* 5+j]?=cs[j]?
 | o::os,_,⟨cs,W,H,z,J⟩,0,G=>by
  subst H;refine⟨cs,z,λj V=>?_⟩;rw [List.getElem?_append_left (by rw [z.len.1];omega)]
  congr 1;omega
 | o::os,_,⟨cs,W,H,z,J⟩,i+1,G=>by
  subst H;obtain⟨I,Z,k2⟩:=OffsM.at J (i:=i) (by simpa using G);refine⟨I,Z,λj V=>?_⟩;rw [<-k2 j V,List.getElem?_append_right (by rw [z.len.1];omega),z.len.1]
  congr 1;omega
theorem OffsM.one {o:Off Nat}{cs:List Value}(h:ky D w o cs):OffsM D w [o] cs:=⟨cs,[],by simp,h,rfl⟩
end
def pre:U->Bool
 | .snd .. =>true | .rcv .. =>true | .tau .. =>true | _=>false
theorem uU {u:U}(h:pre u=true):∃o,offs u=[o]:=by cases u<;>first | exact⟨_,rfl⟩ | cases h
theorem C' {D:Nat->Prop}{w:World}{u:U}{v:Value}(hp:pre u=true)(h:af D w (tl [u]) [v]):∃(g:Nat) (k:UInt8) (a b:Nat) (vr:Value) (r:U),v=ptr g/\D g/\g< w.heap.size/\w.cell? ⟨g,0,none⟩=some (.int .u8 k.toNat)/\w.cell? ⟨g,1,none⟩=some (iv a)/\w.cell? ⟨g,2,none⟩=some (iv b)/\w.cell? ⟨g,3,none⟩=some vr/\
  (k=126\/k=33\/k=63)/\aB D w (td r) vr/\(∀s,k=63->∀a' x q,u= .rcv a' x q->ky D w (.rcv a' x q s) (cO k a b vr s))/\(∀s o,offs u=[o]->k≠63->ky D w o (cO k a b vr s))/\(∀o,offs u=[o]->ky D w o (cO k a b vr false))/\(k=63↔∃a' x q,u= .rcv a' x q):=by
 cases u<;>try cases hp
 ·rename_i a b p;obtain⟨t,I,a',H,vr,J,⟨g,V,W,Z,c0,c1,c2,c3,c4⟩,hk,z,_⟩:=h;obtain⟨rfl,rfl⟩:=J3 J;obtain⟨rfl,rfl⟩:a'=a/\H=b:=by rcases hk with h | h | h<;>first | exact h | cases h
  refine⟨g,33,a',H,vr,p,V,W,Z,c0,c1,c2,c3,.inr (.inl rfl),z,λs h=>absurd h (by decide),λs o G _=>?_,λo G=>?_,⟨λh=>absurd h (by decide),fun⟨_,_,_,h⟩=>by cases h⟩⟩
  ·cases G;exact⟨vr,s,rfl,z⟩
  ·cases G;exact⟨vr,false,rfl,z⟩
 ·rename_i a b p;obtain⟨t,I,a',H,vr,J,⟨g,V,W,Z,c0,c1,c2,c3,c4⟩,hk,z,_⟩:=h;obtain⟨rfl,rfl⟩:=J3 J;obtain⟨rfl,rfl⟩:a'=a/\H=b:=by rcases hk with h | h | h<;>first | exact h | cases h
  refine⟨g,63,a',H,vr,p,V,W,Z,c0,c1,c2,c3,.inr (.inr rfl),z,λs _ a2 x q e=>?_,λs o G h=>absurd rfl h,λo G=>?_,⟨λ _=>⟨_,_,_,rfl⟩,λ _=>rfl⟩⟩
  ·cases e;exact⟨vr,rfl,z⟩
  ·cases G;exact⟨vr,rfl,z⟩
 ·rename_i p;obtain⟨t,I,a',H,vr,J,⟨g,V,W,Z,c0,c1,c2,c3,c4⟩,hk,z,_⟩:=h;obtain⟨rfl,rfl⟩:=J3 J;refine⟨g,126,a',H,vr,p,V,W,Z,c0,c1,c2,c3,.inl rfl,z,λs h=>absurd h (by decide),λs o G _=>?_,λo G=>?_,⟨λh=>absurd h (by decide),fun⟨_,_,_,h⟩=>by cases h⟩⟩
  ·cases G;exact⟨a',H,vr,s,rfl,z⟩
  ·cases G;exact⟨a',H,vr,false,rfl,z⟩
theorem CE {u:U}(n:u.Nr):offs u=u.lT.flatMap offs:=by
 induction u with
 | sum p q G z=>
  have :=z n.2.2;simp only [offs,T.lT,KE];rw [this]
 | _=>simp [T.lT]
theorem ET {u:U}(n:u.Nr)(z:u.smp=true)(I:u.gp=true)(hd:u.dead=false):∀s∈u.lT,pre s=true/\s.Nr/\(∀x∈BV s,x∈BV u)/\(BV s).Sublist (BV u):=by
 induction u with
 | sum p q ih G=>
  simp only [T.smp,IZ]at z;intro s h;rcases Jm.1 h with rfl | h
  ·refine⟨?_,n.2.1,λx H=>JF _ H,K6 _ _⟩;have J:=n.1.2.2;have V:=z.1.1;have W:=n.1.1;cases s<;>first | rfl | (cases V;done) | (cases J;done) | (cases W;done)
  ·obtain⟨Z,k2,k3,k4⟩:=G n.2.2 z.2.2 z.1.2 n.1.2.1 s h;exact⟨Z,k2,λx H=>Jx _ (k3 x H),k4.trans (Kv _ _)⟩
 | nil=>cases hd
 | snd a b p=>intro s h;cases Jg.1 h;exact⟨rfl,n,λ _ h=>h,J8 _⟩
 | rcv a b p=>intro s h;cases Jg.1 h;exact⟨rfl,n,λ _ h=>h,J8 _⟩
 | tau p=>intro s h;cases Jg.1 h;exact⟨rfl,n,λ _ h=>h,J8 _⟩
 | _=>cases I
theorem FU {D:Nat->Prop}{w:World}:∀{l:List U} {us:List Value},af D w (tp l) us->us.length=l.length/\∀j (h:j< l.length) (z:j< us.length),aB D w (td l[j]) us[j]
 | [],us,h=>by cases h;exact⟨rfl,λj h=>by cases h⟩
 | u::l,_,⟨v,G,e,H,I⟩=>by
  subst e;obtain⟨J,V⟩:=FU I;refine⟨by simp [J],λj h z=>?_⟩;cases j with
  | zero=>exact H
  | succ j=>simpa using V j (by simpa using h) (by simpa using z)
theorem zH {D:Nat->Prop}{w:World}:∀{l:List U} {us:List Value},(∀u∈l,u.th=true)->af D w (tl l) us->us.length=l.length/\∀j (h:j< l.length) (h':j< us.length),af D w (tl [l[j]]) [us[j]]
 | [],us,_,h=>by cases h;exact⟨rfl,λj h=>by cases h⟩
 | u::l,us,G,h=>by
  have h0:=G u (by simp);have key:∃v z,us=v::z/\af D w (tl [u]) [v]/\af D w (tl l) z:=by
   cases u<;>try cases h0
   all_goals
    first
    | (obtain⟨t,z,a',W,vr,e,H,I,J,V⟩:=h;exact⟨t,z,e,⟨t,[],a',W,vr,rfl,H,I,J,rfl⟩,V⟩)
    | (obtain⟨t,z,a',W,vp,Z,e,H,I,J,V⟩:=h;exact⟨t,z,e,⟨t,[],a',W,vp,Z,rfl,H,I,J,rfl⟩,V⟩)
  obtain⟨v,z,e,H,I⟩:=key;subst e;obtain⟨J,V⟩:=zH (λu hu=>G u (Jj _ hu)) I;refine⟨by simp [J],λj h h'=>?_⟩;cases j with
  | zero=>exact H
  | succ j=>simpa using V j (by simpa using h) (by simpa using h')
theorem Dt {D:Nat->Prop}{w:World}{u:U}{v:Value}(hp:pre u=true)(h:af D w (tl [u]) [v]){R:Value->World->Prop}(hR:∀v' w' xs,Ex w w'->cD w.heap.size w' v' (offs u).length xs->OffsM D w' (offs u) xs->R v' w'):
  Calls Tryz.prog 140 #[v] w (an [.v] R):=by
 refine eu v w R ?_;obtain⟨o,W⟩:=uU hp;obtain⟨g,k,a,b,vr,r,H,hD,hl,c0,c1,c2,c3,hk,Z,_,_,α,_⟩:=C' hp h;refine⟨g,0,H,k,c0,λx w'=>w'=w/\x=true,?_,λx I hJ=>?_⟩
 ·rcases hk with rfl | rfl | rfl
  ·exact⟨λ _=>⟨rfl,by decide⟩,λh=>absurd h (by decide)⟩
  ·exact⟨λh=>absurd h (by decide),λ _=>⟨λ _=>⟨rfl,by decide⟩,λh=>absurd h (by decide)⟩⟩
  ·exact⟨λh=>absurd h (by decide),λ _=>⟨λh=>absurd h (by decide),λ _=>⟨rfl,by decide⟩⟩⟩
 ·obtain⟨rfl,rfl⟩:=hJ;refine⟨λ _=>⟨λw'=>Ex I w',λw9 β=>?_⟩,λh=>by cases h⟩;have x9:Ex I w9:=β▸Ex.drew I;have cg:∀{w':World},Ex I w'->∀j,w'.cell? ⟨g,j,none⟩=I.cell? ⟨g,j,none⟩:=λx j=>x.cell (show g< _ from hl)
  refine⟨x9,g,0,H,k,λw' x=>by rw [cg x];exact c0,g,0,H,a,λw' x=>by rw [cg x];exact c1,g,0,H,b,λw' x=>by rw [cg x];exact c2,g,0,H,vr,λw' x=>by rw [cg x];exact c3,Z.one,λδ J V G=>?_⟩;have γ:Ex w9 J:=G▸Ex.alloc w9 _;have z:=Ex.trans x9 γ;refine⟨z,hR _ J (cO k a b vr false) z ?_ ?_⟩
  ·rw [W];exact cD.one rfl x9.size V G
  ·rw [W];exact OffsM.one ((α o W).ex z)
theorem r8 {D:Nat->Prop}{w:World}{u:U}{v:Value}(hth:u.th=true)(hq:Uq u)(n:u.Nr)(hs:u.smp=true)(hz:u.size<=1000000)(hDw:∀g,D g->g< w.heap.size)(h:af D w (tl [u]) [v]){R:Value->World->Prop}(hR:∀v' w' xs,Ex w w'->cD w.heap.size w' v' (offs u).length xs->OffsM D w' (offs u) xs->R v' w'):
  Calls Tryz.prog 140 #[v] w (an [.v] R):=by
 by_cases hp:pre u=true
 ·exact Dt hp h hR
 refine eu v w R ?_;cases u<;>first | (exact absurd rfl hp) | (cases hth;done) | skip
 case mat a b p=>
  obtain⟨t,ts',a',b',vr,e1,⟨g,hg,hD,hl,c0,c1,c2,c3,c4⟩,hk,δ,_⟩:=h;obtain⟨rfl,rfl⟩:=J3 e1;refine⟨g,0,hg,_,c0,λx w'=>w'=w/\x=false,⟨λh=>absurd h (by decide),λ _=>⟨λh=>absurd h (by decide),λ _=>⟨rfl,by decide⟩⟩⟩,λx H hJ=>?_⟩;obtain⟨rfl,rfl⟩:=hJ;refine⟨λh=>(by cases h),λ _=>aT (by decide) (aT (by decide) (hR _ H [] (Ex.refl _) (cD.nil _ _) rfl))⟩
 case rep p=>
  simp only [T.smp,IZ]at hs;cases p<;>try (simp [T.isR]at hs)
  rename_i a x q;obtain⟨t,ts',a',b',vr,e1,⟨g,hg,hD,hl,c0,c1,c2,c3,c4⟩,hk,δ,_⟩:=h;obtain⟨rfl,rfl⟩:=J3 e1;have etd:td (.rcv a x q)=([],tl [.rcv a x q]):=iT hq.rep n.2;rw [etd]at δ;obtain⟨br,vo2,θ,ι,rfl,k2,k3,k4,k5,k6,k7,k8⟩:=δ;obtain⟨hl2,hat⟩:=zH (l:=[T.rcv a x q]) (λu hu=>by cases Jg.1 hu;rfl) k8;obtain⟨v2,rfl⟩:∃v2,ι=[v2]:=by
   match ι,hl2 with
   | [v2],_=>exact⟨v2,rfl⟩
  have hp2:=C' (u:= .rcv a x q) rfl (hat 0 (by simp) (by simp));obtain⟨g2,kk,a2,b2,vr2,r2,hg2,hD2,hlt2,d0,d1,d2,d3,hkk,hlv2,hof,_,_,hiff⟩:=hp2;have hk63:kk=63:=hiff.2 ⟨_,_,_,rfl⟩;subst hk63;obtain⟨at_,κ,hvt⟩:=k7.slice;refine⟨g,0,hg,_,c0,λx w'=>w'=w/\x=false,⟨λh=>absurd h (by decide),λ _=>⟨λh=>absurd h (by decide),λ _=>⟨rfl,by decide⟩⟩⟩,λy H hJ=>?_⟩;obtain⟨rfl,rfl⟩:=hJ;refine⟨λh=>(by cases h),λ _=>cS (by decide) λb24 w25 hb24 hw25=>?_⟩;have x25:Ex H w25:=hw25▸Ex.alloc H _;refine⟨g,0,hg,ptr br,by rw [x25.cell (show g< _ from hl)];exact c3,br,0,rfl,θ,by rw [x25.cell (show br< _ from k3)];exact k5,at_,_,κ,hvt,λout i w'=>(i=0/\Ex H w'/\cD H.heap.size w' out 0 [])\/(i=1/\Ex H w'/\cD H.heap.size w' out 1 (cO 63 a2 b2 vr2 true)),λ _ i _=>(1 - i).toNat,.inl ⟨rfl,x25,cD.zero (Jc _) hb24 hw25⟩,λout i w36 hI=>?_⟩;rcases hI with⟨rfl,ε,J⟩ | ⟨rfl,ε,J⟩
  ·obtain⟨bt,W,G,μ,Z,hbl,hcl⟩:∃bt W G,θ= .slice (some ⟨bt,W,none⟩) 1 G/\D bt/\bt< H.heap.size/\H.cell? ⟨bt,W+0,none⟩=some v2:=by
    rcases k7 with⟨_,h0⟩ | ⟨bt,W,G,e,Z,ν,I⟩
    ·cases h0
    ·exact⟨bt,W,G,e,Z,ν,I 0 _ rfl⟩
   refine cS (by simp) ⟨bt,W,1,G,μ,by omega,by omega,v2,?_,g2,0,hg2,63,?_,cS (by decide) ⟨λw'=>Ex H w',λw46 hw46=>?_⟩⟩
   ·rw [show(0:Int).toNat* 1=0 from rfl,ε.cell (show bt< _ from hbl)];exact hcl
   ·rw [ε.cell (show g2< _ from hlt2)];exact d0
   have x46':Ex w36 w46:=hw46▸Ex.drew w36;have x46:=Ex.trans ε x46';have cg:∀{w':World},Ex H w'->∀j,w'.cell? ⟨g2,j,none⟩=H.cell? ⟨g2,j,none⟩:=λx j=>x.cell (show g2< _ from hlt2)
   refine⟨x46,g2,0,hg2,a2,λw' x=>by rw [cg x];exact d1,g2,0,hg2,b2,λw' x=>by rw [cg x];exact d2,g2,0,hg2,vr2,λw' x=>by rw [cg x];exact d3,hlv2.one,λb56 w57 hb56 hw57=>?_⟩;have x57':Ex w46 w57:=hw57▸Ex.alloc w46 _;have ζ:=Ex.trans x46 x57';have o1:cD w46.heap.size w57 (.slice (some ⟨b56,0,none⟩) 1 1) 1 (cO 63 a2 b2 vr2 true):=cD.one rfl (Jc _) hb56 hw57;have hone:(cO 63 a2 b2 vr2 true).all oneV=true:=by have :=hlv2.one;simp only [cO,Kb,LC,Ld,this];rfl
   refine⟨ζ,cD.push (J.ex (Ex.trans x46' x57')) (by have :=ζ.size;omega) (o1.src hone) (by omega) λv63 w64 ho64 hg64 _=>⟨?_,by unfold aj;omega,.inr ⟨rfl,?_,?_⟩,by show(1 - (0+1):Int).toNat< (1 - 0:Int).toNat;decide⟩⟩
   ·exact Ex.below ζ (Kp.below (Kp.aR (S:=λg=>out.ownBlock=some g) hg64 λ _ h=>h) ζ.size λg hg e=>by have :=(J.block g e).1;omega)
   ·exact Ex.below ζ (Kp.below (Kp.aR (S:=λg=>out.ownBlock=some g) hg64 λ _ h=>h) ζ.size λg hg e=>by have :=(J.block g e).1;omega)
   ·simpa using ho64
  ·refine aT (by simp) (hR out w36 _ ε J ?_);exact OffsM.one ((hof true rfl a x q rfl).ex ε)
 case sum p q=>
  have hlive:(T.sum p q).dead=false:=n.ra rfl;have hsm:=ET n hs rfl hlive;have hofs:=CE n;have etl:tl [T.sum p q]= .sum (tp (T.sum p q).lT) .nil:=by
   simp only [tl,T.lT];rw [ec hq.dU n.2.1 n.1.1,ec hq.dJ n.2.2 n.1.2.1,T.gi n.1.2.2];rfl
  rw [etl]at h;obtain⟨t,ts',a',b',vp,us,e1,⟨g,hg,hD,hl,c0,c1,c2,c3,c4⟩,hus,hps,_⟩:=h;obtain⟨rfl,rfl⟩:=J3 e1;obtain⟨hul,hua⟩:=FU hps;generalize hS:(T.sum p q).lT=S at*;have hSl:S.length<=1000000:=by
   have:∀u:U,u.lT.length<=u.size:=by
    intro u
    induction u with
    | sum p q _ ih=>simp only [T.lT,IW,T.size];omega
    | _=>simp only [T.lT,IW,Jh,T.size];omega
   have :=this (T.sum p q);rw [hS]at this;omega
  have hol:∀i,((S.take i).flatMap offs).length=(S.take i).length:=by
   have:∀l:List U,(∀s∈l,pre s=true)->(l.flatMap offs).length=l.length:=by
    intro l
    induction l with
    | nil=>intro _;rfl
    | cons s l ih=>
     intro hl;obtain⟨o,ho⟩:=uU (hl s (by simp));simp only [KE,ho,I',IW,Jh,ih λx hx=>hl x (by simp [hx])];omega
   exact λi=>this _ λs α=>(hsm s (List.mem_of_mem_take α)).1
  obtain⟨au,cau,hvu⟩:=hus.slice;refine⟨g,0,hg,43,c0,λx w'=>w'=w/\x=false,⟨λh=>absurd h (by decide),λ _=>⟨λh=>absurd h (by decide),λ _=>⟨rfl,by decide⟩⟩⟩,λy H hJ=>?_⟩;obtain⟨rfl,rfl⟩:=hJ;refine⟨λh=>(by cases h),λ _=>aT (by decide) (cS (by decide) λb68 w69 hb68 hw69=>?_)⟩;have x69:Ex H w69:=hw69▸Ex.alloc H _;refine⟨g,0,hg,vp,by rw [x69.cell (show g< _ from hl)];exact c4,au,_,cau,hvu,λout i w'=>∃(j:Nat) (xs:List Value),i=j/\j<=us.length/\Ex H w'/\cD H.heap.size w' out ((S.take j).flatMap offs).length xs/\OffsM D w' ((S.take j).flatMap offs) xs,λ _ i _=>(us.length - i).toNat,⟨0,[],rfl,JS _,x69,by simpa using cD.zero (Jc _) hb68 hw69,by simp [OffsM]⟩,λout i w80 hI=>?_⟩;obtain⟨j,xs,rfl,hj,x80,ξ,ο⟩:=hI;refine⟨λhlt=>?_,λhge=>?_⟩;rotate_left
  ·have:j=S.length:=by simp only [I1]at hge;omega
   rw [this,Jy]at ξ ο;rw [hofs]at hR;exact hR out w80 xs x80 ξ ο
  have hjl:j< us.length:=by simp only [I0]at hlt;omega
  have hjS:j< S.length:=by omega
  have η:=hsm S[j] (Jd hjS);obtain⟨bu,ou,β,hvu',Z,hbu,hcu⟩:∃bu ou β,vp= .slice (some ⟨bu,ou,none⟩) us.length β/\D bu/\bu< H.heap.size/\H.cell? ⟨bu,ou+j,none⟩=some us[j]:=by
   rcases hus with⟨_,h0⟩ | ⟨bt,W,G,e,Z,ν,I⟩
   ·rw [h0]at hjl;simp at hjl
   ·exact⟨bt,W,G,e,Z,ν,I j _ (IY hjl)⟩
  have δ:=hua j hjS hjl;have huqS:Uq S[j]:=by
   refine⟨hq.nd.sublist η.2.2.2,λx hx hf=>?_⟩;have hfr:∀u:U,∀s∈u.lT,∀z,s.Fr z->u.Fr z:=by
    intro u
    induction u with
    | sum p q _ ih=>
     intro s α z hz;rcases Jm.1 α with rfl | α
     ·exact .inl hz
     ·exact .inr (ih s α z hz)
    | _=>intro s α z hz;cases Jg.1 α;exact hz
   exact hq.nf x (η.2.2.1 x hx) (hfr _ S[j] (by rw [hS];exact Jd hjS) x hf)
  have ς:(S[j]).th=true:=by
   have h1:=η.1;revert h1;cases S[j]<;>first | (intro _;rfl) | (intro h;cases h)
  have etd:td S[j]=([],tl [S[j]]):=by rw [iT huqS η.2.1,T.iu ς,T.mU ς]
  rw [etd]at δ;obtain⟨br,vo2,θ,ι,hbr,k2,k3,k4,k5,k6,k7,k8⟩:=δ;obtain⟨hl2,hat⟩:=zH (l:=[S[j]]) (λu hu=>by cases Jg.1 hu;exact ς) k8;obtain⟨v2,rfl⟩:∃v2,ι=[v2]:=by
   match ι,hl2 with
   | [v2],_=>exact⟨v2,rfl⟩
  have ha2:=hat 0 (by simp) (by simp);obtain⟨at_,κ,hvt⟩:=k7.slice;have htk:(S.take (j+1)).flatMap offs=(S.take j).flatMap offs++offs S[j]:=by rw [Jb hjS,Kh];simp
  refine⟨bu,ou,_,β,hvu',by omega,by omega,us[j],?_,br,0,hbr,θ,by rw [x80.cell (show br< _ from k3)];exact k5,at_,_,κ,hvt,λout i w'=>(i=0/\∃xs,Ex H w'/\cD H.heap.size w' out ((S.take j).flatMap offs).length xs/\OffsM D w' ((S.take j).flatMap offs) xs)\/(i=1/\∃xs,Ex H w'/\cD H.heap.size w' out ((S.take (j+1)).flatMap offs).length xs/\OffsM D w' ((S.take (j+1)).flatMap offs) xs),
   λ _ i _=>(1 - i).toNat,.inl ⟨rfl,xs,x80,ξ,ο⟩,λout2 i w93 hI2=>?_⟩
  ·rw [Ja,JE,x80.cell (show bu< _ from hbu)];exact hcu
  rcases hI2 with⟨rfl,xs2,υ,V,φ⟩ | ⟨rfl,xs2,υ,V,φ⟩
  ·obtain⟨bt,W,G,μ,hbD2,hbl,hcl⟩:∃bt W G,θ= .slice (some ⟨bt,W,none⟩) 1 G/\D bt/\bt< H.heap.size/\H.cell? ⟨bt,W+0,none⟩=some v2:=by
    rcases k7 with⟨_,h0⟩ | ⟨bt,W,G,e,Z,ν,I⟩
    ·cases h0
    ·exact⟨bt,W,G,e,Z,ν,I 0 _ rfl⟩
   refine cS (by simp) ⟨bt,W,1,G,μ,by omega,by omega,v2,?_,Dt η.1 (af.ex ha2 υ) λv99 w100 ys χ ho100 ψ=>?_⟩
   ·rw [show(0:Int).toNat* 1=0 from rfl,υ.cell (show bt< _ from hbl)];exact hcl
   have γ:=Ex.trans υ χ;have hlen1:=hol j;rw [JJ,LJ (by omega)]at hlen1;obtain⟨o,hoo⟩:=uU η.1;have hlo:(offs S[j]).length=1:=by rw [hoo];rfl
   refine cD.push (V.ex χ) γ.size (ho100.src ψ.len.2) (by omega) λv106 w107 ho107 ω _=>⟨by unfold aj;omega,.inr ⟨rfl,xs2++ys,?_,?_,?_⟩,by show(1 - (0+1):Int).toNat< (1 - 0:Int).toNat;decide⟩
   ·exact Ex.below γ (Kp.below (Kp.aR (S:=λg=>out2.ownBlock=some g) ω λ _ h=>h) γ.size λg hg e=>by have :=(V.block g e).1;omega)
   ·rw [htk,I'];exact ho107
   ·rw [htk];exact OffsM.kp (Kp.aR (S:=λg=>out2.ownBlock=some g) ω λ _ h=>h) (λg hgD e=>by have :=(V.block g e).1;have :=hDw g hgD;omega) ((φ.ex χ).app ψ)
  ·refine aT (by simp) ⟨by unfold aj;omega,⟨j+1,xs2,by omega,by omega,υ,V,φ⟩,by show((us.length:Int) - ((j:Int)+1)).toNat< ((us.length:Int) - j).toNat;omega⟩
theorem jC {α β:Type}{g:α->β}:∀{l:List α} {m:List β},m.Perm (l.map g)->∃π:List α,π.Perm l/\m=π.map g
 | [],m,h=>⟨[],J7 _,by simpa using h⟩
 | a::l,m,h=>by
  have hm:g a∈m:=h.symm.subset (by simp);obtain⟨s,t,rfl⟩:=List.append_of_mem hm;have z:(s++t).Perm (l.map g):=(Mf (g a)).1 (Lz.symm.trans (by simpa using h));obtain⟨π,G,h4⟩:=jC z;obtain⟨x,y,rfl,h5,H⟩:=List.append_eq_map_iff.1 h4;refine⟨x++a::y,Lz.trans (List.Perm.cons a G),?_⟩;simp [h5,H]
def rnv:List UInt8->List UInt8->Nat->Nat
 | o::os,l::ls,n=>rnv os ls (if n=o.toNat then l.toNat else n)
 | _,_,n=>n
theorem xn:∀(os ls:List UInt8) (o l:UInt8) (n:Nat),os.length=ls.length->rnv (os++[o]) (ls++[l]) n=if rnv os ls n=o.toNat then l.toNat else rnv os ls n
 | [],[],o,l,n,_=>rfl
 | [],_::_,_,_,_,h=>by cases h
 | _::_,[],_,_,_,h=>by cases h
 | a::os,b::ls,o,l,n,h=>by
  simp only [JZ,rnv];exact xn os ls o l _ (by simpa using h)
theorem uR:∀(os ls:List UInt8) (n:Nat),(∀o∈os,n≠o.toNat)->rnv os ls n=n
 | [],_,_,_=>by simp [rnv]
 | _::_,[],_,_=>by simp [rnv]
 | a::os,b::ls,n,h=>by
  rw [rnv,Jn (h a (by simp))];exact uR os ls n λo z=>h o (Jj _ z)
theorem AJ:∀(π:List Nat) (os ls:List UInt8) (g:Nat->Nat) (ρ:Rh) (y:Nat),os.map UInt8.toNat=π.map g->π.length=ls.length->(∀l∈ls,l∉os)->y∈π->(∀z∈π,g z=g y->z=y)->os.Nodup->
  rnv os ls (g y)=(asg π ls ρ y).toNat
 | [],_,_,_,_,_,_,_,_,h,_,_=>by cases h
 | z::π,[],_,_,_,_,h,_,_,_,_,_=>by simp at h
 | _::_,_::_,[],_,_,_,_,h,_,_,_,_=>by cases h
 | z::π,o::os,l::ls,g,ρ,y,h,hl,hd,hy,Z,G=>by
  simp only [JA,JU]at h;have G:=J2.1 G;have H:∀I∈os,l.toNat≠I.toNat:=λI ho e=>hd l (by simp) (by rw [Jw.1 e];exact Jj _ ho)
  rw [rnv,asg];by_cases e:y=z
  ·subst e;rw [JB h.1.symm,uR os ls _ H];by_cases hyp:y∈π
   ·exfalso;have:g y∈π.map g:=KC hyp;rw [<-h.2,<-h.1]at this;obtain⟨I,h1,h2⟩:=JL.1 this;exact G.1 (Jw.1 h2▸h1)
   ·rw [bL π ls _ y hyp];simp [aE]
  ·have hyp:y∈π:=(Jm.1 hy).resolve_left e;have J:¬g y=o.toNat:=λh'=>e ((Z z (by simp) (h.1.symm.trans h'.symm)).symm)
   rw [Jn J];exact AJ π os ls g _ y h.2 (by simpa using hl) (λl' V W=>hd l' (Jj _ V) (Jj _ W)) hyp (λx hx=>Z x (Jj _ hx)) G.2
structure BZ (k m:Nat)(Θ ls A:Tx):Prop where
 len:ls.length=m
 nd:ls.Nodup
 ok:∀c∈ls,c∉Θ/\okn (k+m) c/\ngr c/\nm c=true
 srt:jV A
 mem:∀c,c∈A↔c∈Θ\/c∈ls
theorem TR.env {on:Bool}{u:U}{σ τ:Nat->Nat}{Θ r:Tx}(h:TR on u σ Θ r)(he:∀y,u.Us y->σ y=τ y):TR on u τ Θ r:=
 ⟨h.ne,h.len,h.cnt,h.bad,λa b c ρ G=>h.eq a b c ρ λy z=>(G y z).trans (he y z).symm⟩
theorem TR.le {on:Bool}{u:U}{k:Nat}{p:P}{σ τ:Nat->Nat}{Θ r:Tx}(h:TR on u τ Θ r)(d:Den k p σ u):r.length<=p.text.length:=by
 have z:=h.len;have G:=oz d.ae;rw [T.aU];omega
structure H4 (M:Nat)(p:P)(t:U)(τ:Nat->Nat)(Θ o ls:Tx)(i:Nat)(q:P):Prop where
 den:Den M q (λy=>rnv (o.take i) (ls.take i) (τ y)) t
 shp:q.shp=p.shp
 gf:∀z,q.Fr z->FP z->z∈o.drop i
 cov:∀y,t.Us y->∃c:UInt8,c.toNat=rnv (o.take i) (ls.take i) (τ y)/\(c∈Θ\/c∈ls.take i\/c∈o.drop i)
theorem qP {l:Tx}{i:Nat}(h:i< l.length):l.drop i=bt l i::l.drop (i+1):=bB h
theorem ie {l:Tx}{i:Nat}(h:i< l.length):l.take (i+1)=l.take i++[bt l i]:=by
 rw [Jb h];simp [bt,h]
theorem H4.step {M k m:Nat}{p q q':P}{t:U}{τ:Nat->Nat}{Θ o ls A:Tx}{i:Nat}(h:H4 M p t τ Θ o ls i q)(η:∀c∈Θ,ngr c)(α:BZ k m Θ ls A)(ho:o.length=m)(β:∀c∈o,FP c)(hi:i< m)
  (hr:iH M q (bt o i) (bt ls i) q'):H4 M p t τ Θ o ls (i+1) q':=by
 have Z:i< o.length:=by omega
 have W:i< ls.length:=by rw [α.len];exact hi
 have hlen:(o.take i).length=(ls.take i).length:=by rw [JJ,JJ];omega
 have e:∀y,rnv (o.take (i+1)) (ls.take (i+1)) (τ y)=if rnv (o.take i) (ls.take i) (τ y)=(bt o i).toNat then(bt ls i).toNat else rnv (o.take i) (ls.take i) (τ y):=λy=>by
  rw [ie Z,ie W,xn _ _ _ _ _ hlen]
 have H:=α.ok _ (nj W);have ε:bt ls i∉ls.take i:=λhm=>by
  have γ:=α.nd;rw [<-J9 i ls,qP W]at γ;exact(JG.1 γ).2.2 _ hm _ (by simp) rfl
 have ζ:bt ls i∉o.drop i:=λhm=>dY H.2.2.1 (β _ (List.mem_of_mem_drop hm))
 have I:∀y,t.Us y->rnv (o.take i) (ls.take i) (τ y)≠(bt ls i).toNat:=λy hy he=>by
  obtain⟨c,J,G⟩:=h.cov y hy;have hc:c=bt ls i:=Jw.1 (J.trans he);rcases G with G | G | G
  ·exact H.1 (hc▸G)
  ·exact ε (hc▸G)
  ·exact ζ (hc▸G)
 refine⟨⟨hr.wf,?_,⟨hr.eb,?_⟩,?_,?_,h.den.uq⟩,hr.shp.trans h.shp,λz hz hg=>?_,λy hy=>?_⟩
 ·have :=h.den.len;rw [T.aU,T.iS hr.shp,<-T.aU];exact this
 ·rw [T.yz hr.shp,T.vN hr.shp];exact h.den.bd.le
 ·have hh:=h.den.ae.renamed hr.ok (λx _ e=>Jw.1 e);have e':(λy=>rnv (o.take (i+1)) (ls.take (i+1)) (τ y))=λy=>if rnv (o.take i) (ls.take i) (τ y)=(bt o i).toNat then(bt ls i).toNat else rnv (o.take i) (ls.take i) (τ y):=funext e
  rw [e'];exact hh
 ·intro y z hy hz V;simp only [e]at V;have δ:=h.den.inj y z hy hz;split at V<;>split at V
  ·rename_i J G;exact δ (J.trans G.symm)
  ·exact absurd V.symm (I z hz)
  ·exact absurd V (I y hy)
  ·exact δ V
 ·rcases hr.ok.free z hz with J | J | J
  ·exact absurd hg (dY (J▸H.2.2.1))
  ·have :=h.gf z J.2 hg;rw [qP Z]at this;exact(Jm.1 this).resolve_left J.1
  ·have hh:=β _ (nj Z);rw [J.2.2]at hh;exact absurd hh (dY H.2.2.1)
 ·obtain⟨c,J,G⟩:=h.cov y hy;rw [e];by_cases hc:rnv (o.take i) (ls.take i) (τ y)=(bt o i).toNat
  ·rw [JB hc];exact⟨bt ls i,rfl,.inr (.inl (by rw [ie W];simp))⟩
  ·rw [Jn hc];refine⟨c,J,?_⟩;rcases G with G | G | G
   ·exact .inl G
   ·exact .inr (.inl (by rw [ie W];simp [G]))
   ·rw [qP Z]at G;rcases Jm.1 G with h3 | h3
    ·exact absurd (J.symm.trans (by rw [h3])) hc
    ·exact .inr (.inr h3)
theorem aK.B9 {on:Bool}{σ:Nat->Nat}{Θ:Tx}:∀{rs:List Tx} {us:List U},aK (λr u=>TR on u σ Θ r) rs us->Proofs.YtdecokaadekjnaaGreat.dt rs<=jH us
 | [],[],_=>by simp [Proofs.YtdecokaadekjnaaGreat.dt,jH]
 | [],_::_,h=>by have :=h.1;simp at this
 | _::_,[],h=>by have :=h.1;simp at this
 | r::rs,u::us,h=>by
  have G:=(h.2 0 r u rfl rfl).len;have z:=aK.B9 (rs:=rs) (us:=us) (on:=on) (σ:=σ) (Θ:=Θ) ⟨by have :=h.1;simpa using this,λi a b ha hb=>h.2 (i+1) a b (by simpa using ha) (by simpa using hb)⟩;rw [dN];simp only [jH,JA,J',IW]at z|-;omega
def vS (on:Bool)(σ:Nat->Nat)(u:U)(o ls A r:Tx):Prop:=
 ∃rs:List Tx,r=joinS 38 (aX rs)/\aK (λr t=>TR on t (λy=>rnv o ls (asgN (ak u).1 0 σ y)) A r) rs (ak u).2
theorem Fb {n:Nat}(iht:vC n){k:Nat}{σ:Nat->Nat}{u:U}{Θ A o ls:Tx}{W:List P}{on br:Bool}{bm B:Nat}{vt:Value}{w:World}{R:ay->World->Prop}
  (hu:Uq u) (hne:(ak u).2≠[]) (hb:∀p∈W,k+(ak u).1.length+p.rd+p.ow<=64) (hsz:∀p∈W,p.size<=n) (γ:vG k Θ σ u) (ο:aK (EG k σ u 0) W (ak u).2) (G:BZ k (ak u).1.length Θ ls A) (ho:o.Perm (gT (ak u).1.length))
  (hm64:(ak u).1.length<=64) (δ:Own B w vt (W.map T.text)) (hB:bm< B) (ς:MK w bm br on) (htl:jH (ak u).2<=1099511627776+3)
  (h:∀r w',Kp w w' (λg=>g=bm)->MK w' bm (br||(ak u).2.any λt=>decide (5< ax (tl [t]))) on->vS on σ u o ls A r->R r w'):
  Calls Tryz.prog 244 #[.pointer (some ⟨bm,0,none⟩),vt,.string (ab o),.string (ab ls),.string (ab A)] w (an [.s] R):=by
 refine kv _ vt o ls A w R ?_;have υ:o.length=(ak u).1.length:=by rw [ho.length_eq,ik]
 have hog:∀c∈o,FP c:=λc hc=>by
  obtain⟨j,h1,rfl⟩:=ia.1 (ho.subset hc);exact uK (by omega)
 have hlen:=ο.1;have hbm:=ς.lt;have hlu:3* (ak u).2.length<=jH (ak u).2:=by unfold jH;omega
 obtain⟨av,cap,hv⟩:=δ.strs.slice;rw [Ju]at hv;refine⟨av,_,cap,hv,λlist x w'=>∃(i:Nat) (rs:List Tx),x=i/\i<=(ak u).2.length/\Kp w w' (λg=>g=bm)/\MK w' bm (br||((ak u).2.take i).any λt=>decide (5< ax (tl [t]))) on/\
   Own w.heap.size w' list rs/\Own B w' vt (W.map T.text)/\aK (λr t=>TR on t (λy=>rnv o ls (asgN (ak u).1 0 σ y)) A r) rs ((ak u).2.take i),λ _ x _=>((ak u).2.length - x).toNat,?_,λlist x w3 hI=>?_⟩
 ·exact⟨0,[],rfl,by omega,Kp.ah (Ex.refl w) _,by simpa using ς,Own.nil _ _,δ,aK.nil⟩
 obtain⟨i,rs,rfl,hi,ι,κ,μ,φ,V⟩:=hI;have hs3:=ι.size;refine⟨λhc=>?_,λhc=>?_⟩
 ·have hc:=Jq hc;have χ:i< W.length:=by omega
  have ν:i< (ak u).2.length:=by omega
  refine φ.strs.get (Ex.refl w3) (i:=i) (x:=(W[i]).text) (by omega) (by simp [χ]) ?_;obtain⟨m0,τ,hkm,dp,ψ,hgf⟩:=ο.2 i _ _ (IY χ) (IY ν);have J:(ak u).2[i]∈(ak u).2:=Jd _;have ω:W[i]∈W:=Jd _;have hbp:=hb _ ω;have hszp:=hsz _ ω;generalize hM:max m0 (k+(ak u).1.length)=M;have hM1:m0<=M:=by omega
  have hM2:k+(ak u).1.length<=M:=by omega
  have hle:=dp.bd.le;have dM:Den M W[i] τ (ak u).2[i]:=⟨dp.wf,dp.len,⟨dp.bd.eb.mono hM1,by omega⟩,dp.ae,dp.inj,dp.uq⟩
  have hus:=kF u hu _ J;refine⟨λs j w'=>Ex w3 w'/\∃(j':Nat) (q:P),j=j'/\j'<=o.length/\s=q.text/\H4 M W[i] (ak u).2[i] τ Θ o ls j' q,λ _ j _=>(o.length - j).toNat,⟨Ex.refl w3,0,W[i],rfl,by omega,rfl,?_⟩,λs j w4 hJ=>?_⟩
  ·refine⟨by simpa [rnv]using dM,rfl,λz hz hg=>?_,λy hy=>?_⟩
   ·obtain⟨j,h1,Z⟩:=hgf z hz hg;rw [KG];exact ho.symm.subset (ia.2 ⟨j,by omega,Z⟩)
   ·simp only [List.take_zero,rnv,KG];rw [ψ y hy];by_cases α:y∈(ak u).1
    ·obtain⟨j,hj,e⟩:=JV.1 α;refine⟨gl j,?_,.inr (.inr (ho.symm.subset (ia.2 ⟨j,hj,rfl⟩)))⟩;rw [<-e,jy _ _ _ _ hj (gm u hu),JC]
    ·rw [iU _ _ _ _ α];obtain⟨c,h1,Z⟩:=γ.cov y ((hus y hy).resolve_right α);exact⟨c,Z,.inl h1⟩
  obtain⟨H,j',q,rfl,hj,rfl,hq⟩:=hJ;refine⟨λβ=>?_,λβ=>?_⟩
  ·have β:=Jq β;have hj':j'< o.length:=by omega
   refine⟨λ _=>True,λw5 hw5=>⟨trivial,⟨by omega,by omega⟩,⟨by omega,by rw [G.len];omega⟩,?_⟩⟩;have hx5:Ex w4 w5:=hw5▸Ex.drew w4;have hlq:=G.ok _ (nj (s:=ls) (i:=j') (by rw [G.len];omega));have hbd:=T.xm q;have hqle:=hq.den.bd.le;rw [Ja];refine gO _ (Jc _) hq.den.ok hq.den.bd.eb (by omega) hlq.2.2.2 (hlq.2.1.mono hM2) λq' w6 I hq'=>⟨trivial,by unfold aj;omega,⟨(H.trans hx5).trans I,j'+1,q',by omega,by omega,rfl,?_⟩,by dsimp only;omega⟩
   exact hq.step (λc hc=>(γ.okn c hc).2) G υ hog (by omega) hq'
  ·have β:=Jr β;have ej:j'=o.length:=by omega
   subst ej;have ζ:=hq.den;have e1:o.take o.length=o:=Jy;have e2:ls.take o.length=ls:=by rw [υ,<-G.len];exact Jy
   have η:=hq.cov;simp only [e1,e2]at ζ η;have hm4:=κ.ex H;have hszq:=T.oI hq.shp;refine iht (by omega) ζ (vh u _ J) (sS u _ J).1 (sS u _ J).2 (λz hz hg=>?_) ⟨G.srt,λc hc=>?_,λy hy=>?_⟩ hm4 λr w5 ε hm5 hr=>?_
   ·have :=hq.gf z hz hg;rw [KH]at this;cases this
   ·rcases(G.mem c).1 hc with h1 | h1
    ·exact⟨(γ.okn c h1).1.mono (by omega),(γ.okn c h1).2⟩
    ·have :=G.ok c h1;exact⟨this.2.1.mono hM2,this.2.2.1⟩
   ·obtain⟨c,h1,Z⟩:=η y hy;refine⟨c,(G.mem c).2 ?_,h1⟩;rcases Z with Z | Z | Z
    ·exact .inl Z
    ·exact .inr Z
    ·rw [KH]at Z;cases Z
   ·intro b6 w6 hb6 hw6;have I:Ex w5 w6:=hw6▸Ex.alloc w5 _;have hbl:∀g,list.ownBlock=some g->¬g=bm:=λg hg e=>by have :=(μ.block g hg).1;omega
    have ho5:Own w.heap.size w6 list rs:=((μ.ex H).kp ε hbl).ex I;have z4:=H.size;have z5:=ε.size;have z6:=I.size;have θ:rs.length=i:=by rw [V.1,JJ];omega
    refine Own.push ho5 (by omega) (Strs.one hb6 hw6) (by simp only [IW,Jh];omega) λv7 w7 ξ ho7 hg7 _=>?_
    refine⟨by unfold aj;omega,⟨i+1,rs++[r],by omega,by omega,?_,?_,ho7,?_,?_⟩,by dsimp only;omega⟩
    ·exact Kp.DP (Kp.trans (Kp.trans (Kp.trans ι (Kp.ah H _) λ _ _ h=>h) ε λ _ _ h=>h) (Kp.ah I _) λ _ _ h=>h) ξ (Jc _)
    ·have hm6:=(hm5.ex I).below ξ hbm;rw [Jb ν,List.any_append,<-Kz];simpa using hm6
    ·have hvn:∀g,vt.ownBlock=some g->¬g=bm:=λg hg e=>by have :=(δ.block g hg).1;omega
     exact(((φ.ex H).kp ε hvn).ex I).below ξ λg hg=>(δ.block g hg).2
    ·rw [Jb ν];refine V.snoc (hr.env λy hy=>?_);show rnv o ls (τ y)=_;rw [ψ y hy]
 ·have hc:=Jr hc;have e:i=(ak u).2.length:=by omega
  subst e;rw [Jy]at κ V;have θ:rs.length=(ak u).2.length:=V.1;have hrs:rs≠[]:=λe=>hne (Jv (by rw [<-θ,e];rfl))
  refine nK μ.strs (by omega) λv4 w4 H ho4=>?_
  have hsn:aX rs≠[]:=λe=>hrs (by have :=aM rs;rw [e]at this;exact this.symm.eq_nil)
  have hll:dt rs<=jH (ak u).2:=V.B9;refine tf ho4.strs hsn (by rw [lN (aM rs)];omega) ?_;exact h _ w4 (Kp.trans ι (Kp.ah H _) λ _ _ h=>h) (κ.ex H) ⟨rs,rfl,V⟩
theorem uw:∀(n:Nat) (tk:Tk),lets (n+1) tk=lets n tk++[ir (addK (lets n tk) tk)]
 | 0,tk=>rfl
 | n+1,tk=>by
  rw [lets,uw n,lets];rfl
theorem py:∀(n:Nat) (tk:Tk),fZ (n+1) tk=(fZ n tk||(tH (addK (lets n tk) tk)).isNone)
 | 0,tk=>by simp [fZ,lets,addK]
 | n+1,tk=>by
  rw [fZ,py n,fZ];rw [lets,addK,Kz]
theorem fI:∀(l:List UInt8) (s:Tx),(wrap l s).length=3* l.length+s.length
 | [],s=>by simp [wrap]
 | c::l,s=>by simp only [wrap,IW,fI l s];omega
theorem sF:∀{l:List UInt8} (s:Tx),(∀c∈l,¬c=35)->(wrap l s).count 35=l.length+s.count 35
 | [],s,_=>by simp [wrap]
 | c::l,s,h=>by
  have z:=sF (l:=l) s λc G=>h c (Jj _ G)
  simp only [wrap,IW];rw [List.count_cons,bj (h c (by simp)),bj (by decide),z];simp;omega
theorem nX:∀{l:List UInt8} {s:Tx} {c:UInt8},(c∈l\/c∈s)->c∈wrap l s
 | [],s,c,h=>by simpa [wrap]using h
 | d::l,s,c,h=>by
  simp only [wrap,Jm];rcases h with h | h
  ·rcases Jm.1 h with h | h
   ·exact .inr (.inl h)
   ·exact .inr (.inr (.inr (nX (.inl h))))
  ·exact .inr (.inr (.inr (nX (.inr h))))
theorem gj {k m:Nat}{Θ ls A:Tx}(h:BZ k m Θ ls A):cI A=addK ls (cI Θ):=by
 funext c
 rw [u9,cI,cI,J1];simp only [I0,Kt];exact h.mem c
structure F5 (k i:Nat)(Θ ls A:Tx):Prop where
 ok:BZ k i Θ ls A
 good:fZ i (cI Θ)=false->ls=lets i (cI Θ)
 bad:fZ i (cI Θ)=true->∃c∈ls,128<=c
theorem F5.zero {k:Nat}{Θ:Tx}(h:jV Θ):F5 k 0 Θ [] Θ:=
 ⟨⟨rfl,Ky,λc z=>(by cases z),h,λc=>by simp⟩,λ _=>rfl,λh=>by simp [fZ]at h⟩
theorem F5.snoc {k i:Nat}{Θ ls A V:Tx}{c:UInt8}(h:F5 k i Θ ls A)(G:xd (k+i) A c)(W:jV V)(Z:∀x,x∈V↔x=c\/x∈A):F5 k (i+1) Θ (ls++[c]) V:=by
 have I:c∉ls:=λhm=>G.nin ((h.ok.mem c).2 (.inr hm))
 have J:c∉Θ:=λhm=>G.nin ((h.ok.mem c).2 (.inl hm))
 refine⟨⟨by simp [h.ok.len],?_,λd hd=>?_,W,λd=>?_⟩,λhb=>?_,λhb=>?_⟩
 ·refine JG.2 ⟨h.ok.nd,by simp,λa ha b hb e=>?_⟩;have:b=c:=by simpa using hb
  subst this;subst e;exact I ha
 ·rcases Jf.1 hd with hd | hd
  ·have :=h.ok.ok d hd;exact⟨this.1,this.2.1.mono (by omega),this.2.2⟩
  ·have:d=c:=by simpa using hd
   subst this;exact⟨J,by rw [<-Lc];exact G.okn,G.ngr,G.nm⟩
 ·rw [Z,h.ok.mem,Jf,Jg];constructor
  ·rintro(h | h | h)
   ·exact .inr (.inr h)
   ·exact .inl h
   ·exact .inr (.inl h)
  ·rintro(h | h | h)
   ·exact .inr (.inl h)
   ·exact .inr (.inr h)
   ·exact .inl h
 ·rw [py,Ko]at hb;have e:=h.good hb.1;rw [uw,<-e]
  congr 2
  have z:=hb.2;rw [<-e,<-gj h.ok]at z;rw [<-gj h.ok];exact G.good z
 ·rw [py,Kt]at hb;cases H:fZ i (cI Θ)with
  | true=>
   obtain⟨d,h1,h2⟩:=h.bad H;exact⟨d,by simp [h1],h2⟩
  | false=>
   rw [H]at hb;have z:=hb.resolve_left (by simp);rw [<-h.good H,<-gj h.ok]at z;exact⟨c,by simp,G.bad z⟩
theorem uf:∀n,n<=90->(gT n).Nodup
 | 0,_=>Ky
 | n+1,h=>by
  rw [wG];refine JG.2 ⟨uf n (by omega),by simp,λa ha b hb e=>?_⟩;have hb:b=gl n:=by simpa using hb
  obtain⟨j,G,z⟩:=ia.1 ha;have :=vR (by omega) (by omega) (z.symm.trans (e.trans hb));omega
structure Ak (on:Bool)(σ:Nat->Nat)(u:U)(Lo:List Tx)(ls A best:Tx):Prop where
 mem:∃o∈Lo,vS on σ u o ls A best
 le:∀o∈Lo,∃r,vS on σ u o ls A r/\jk best r=true
theorem vS.ne {on:Bool}{σ:Nat->Nat}{u:U}{o ls A r:Tx}(h:vS on σ u o ls A r)(z:(ak u).2≠[]):r≠[]:=by
 obtain⟨rs,rfl,ha⟩:=h;have G:=aM rs;refine wH (λs H=>?_) λe=>z (Jv ?_)
 ·obtain⟨t,_,I⟩:=ha.get' (G.subset H);exact I.ne
 ·rw [e]at G;rw [<-ha.1,G.symm.eq_nil];rfl
theorem vS.text {k:Nat}{σ:Nat->Nat}{u:U}{Θ o ls A r:Tx}{π:List Nat}(h:vS false σ u o ls A r)(hu:Uq u)(V:vG k Θ σ u)(W:BZ k (ak u).1.length Θ ls A)(H:π.Perm (ak u).1)
  (ho:o.map UInt8.toNat=π.map (asgN (ak u).1 0 σ)) (I:o.Perm (gT (ak u).1.length)) (hm:(ak u).1.length<=64) (J:∀t∈(ak u).2,ax (tl [t])<=5) (Z:∀t∈(ak u).2,thBad (tl [t]) (cI A)=false) {ρ:Rh} (hc:Compat ρ σ u):
  r=joinS 38 (aX ((ak u).2.map λt=>thU t (asg π ls ρ) (cI A))):=by
 obtain⟨rs,rfl,ha⟩:=h
 congr 2
 have β:∀y∈(ak u).1,∀z∈(ak u).1,asgN (ak u).1 0 σ z=asgN (ak u).1 0 σ y->z=y:=by
  intro y hy z hz e;obtain⟨i,hi,rfl⟩:=JV.1 hy;obtain⟨j,hj,rfl⟩:=JV.1 hz;rw [jy _ _ _ _ hi (gm u hu),jy _ _ _ _ hj (gm u hu),JC,JC]at e;have :=vR (by omega) (by omega) (Jw.1 e);subst this;rfl
 have γ:o.Nodup:=I.nodup_iff.2 (uf _ (by omega));have :=aK.map_eq (f:=λr:Tx=>r) (g:=λt=>thU t (asg π ls ρ) (cI A)) (ha.mono λr t _ ht hw=>hw.eq (J t ht) rfl (Z t ht) (asg π ls ρ) λy hy=>?_)
 ·simpa using this
 ·show(asg π ls ρ y).toNat=rnv o ls (asgN (ak u).1 0 σ y);by_cases G:y∈(ak u).1
  ·refine(AJ π o ls _ ρ y ho (by rw [H.length_eq,W.len]) (λl hl δ=>?_) (H.symm.subset G) (λz hz e=>β y G z (H.subset hz) e) γ).symm;obtain⟨j,h1,rfl⟩:=ia.1 (I.subset δ);exact dY (W.ok _ hl).2.2.1 (uK (by omega))
  ·have α:=(kF u hu t ht y hy).resolve_right G;rw [bL π ls ρ y λh=>G (H.subset h),iU _ _ _ _ G,uR,hc y α];intro o' ε e;obtain⟨c,h1,h2⟩:=V.cov y α;obtain⟨j,h3,rfl⟩:=ia.1 (I.subset ε);have:c=gl j:=Jw.1 (h2.trans e);exact dY (V.okn c h1).2 (this▸uK (by omega))
theorem qR {u:U}(hu:Uq u):bc u<=5->(ak u).1.length<=5/\∀t∈(ak u).2,ax (tl [t])<=5:=by
 intro h;obtain⟨z,G,_⟩:=fN u hu;unfold bc at h;rw [z,G.length_eq]at h;exact⟨by omega,(qV _ _).1 (by omega)⟩
theorem wP {u:U}(hu:Uq u):decide (5< bc u)=(decide (5< (ak u).1.length)||(ak u).2.any λt=>decide (5< ax (tl [t]))):=by
 rw [J1,Kt,I0,I0,KY];constructor
 ·intro h;rcases KB 5 (ak u).1.length with z | z
  ·exact .inl z
  ·right;refine JX λJ=>?_
   have G:∀t∈(ak u).2,ax (tl [t])<=5:=λt W=>by
    rcases KB 5 (ax (tl [t]))with H | H
    ·exact absurd ⟨t,W,Ke H⟩ J
    ·exact H
   obtain⟨V,I,_⟩:=fN u hu;unfold bc at h;rw [V,I.length_eq]at h;have :=(qV (ak u).2 5).2 G;omega
 ·intro h;refine JX λJ=>?_
  obtain⟨V,I⟩:=qR hu (by omega);rcases h with h | ⟨t,z,G⟩
  ·omega
  ·have :=I t z;have :=Jq G;omega
theorem WR.EV {on:Bool}{k:Nat}{σ:Nat->Nat}{u:U}{Θ ls A best:Tx}{Lo:List Tx}(hu:Uq u)(I:(ak u).2≠[])(β:vG k Θ σ u)(hl:F5 k (ak u).1.length Θ ls A)(hm:(ak u).1.length<=64)
  (γ:∀o∈Lo,o.Perm (gT (ak u).1.length)) (δ:on=false->∀o,o.Perm (gT (ak u).1.length)->o∈Lo) (h:Ak on σ u Lo ls A best):WR on u σ Θ (wrap ls best):=by
 obtain⟨o0,ε,hN⟩:=h.mem;have ζ:=hN.ne I;obtain⟨rs,z,ha⟩:=hN;have G:=hl.ok;have hp:=aM rs;have θ:rs≠[]:=λe=>I (Jv (by rw [<-ha.1,e];rfl))
 have ι:aX rs≠[]:=λe=>θ (by rw [e]at hp;exact hp.symm.eq_nil)
 have κ:∀c∈ls,¬c=35:=λc hc=>jR (G.ok c hc).2.2.2
 obtain⟨g1,g2,_⟩:=fN u hu;have J:(td u).2.isNil=false:=by
  rw [dD];cases hd:u.dead with
  | false=>rfl
  | true=>rw [de u hu hd]at I;exact absurd rfl I
 refine⟨λe=>?_,?_,λhM=>?_,λhM Z hb=>?_,λhM Z hb ρ hc=>?_⟩
 ·have :=fI ls best;rw [e]at this;have V:best.length≠0:=λe=>ζ (Jv e)
  simp at this;omega
 ·have H:=nD 38 _ ι;have V:=lN hp;have h3:=ha.B9;have h4:=fg u;rw [fI,G.len,z];omega
 ·obtain⟨m1,m2⟩:=qR hu hM;rw [sF _ κ,G.len,z,kY (by decide),iL (hp.map _)];unfold cM;rw [g1,g2.length_eq,yr]
  congr 2
  exact aK.map_eq (ha.mono λr t _ ht hw=>hw.cnt (m2 t ht))
 ·obtain⟨m1,m2⟩:=qR hu hM;unfold dj fq at hb;rw [J,g2.length_eq]at hb;simp only [Bool.not_false,KO,Kt]at hb;cases α:fZ (ak u).1.length (cI Θ)with
  | true=>
   obtain⟨c,H,V⟩:=hl.bad α;exact⟨c,nX (.inl H),V⟩
  | false=>
   rw [α]at hb;have hb:=hb.resolve_left (by simp);rw [<-hl.good α,<-gj G,g1,rS,KY]at hb;obtain⟨t,H,V⟩:=hb;obtain⟨r,h3,h4⟩:=ha.get H;obtain⟨c,h5,h6⟩:=h4.bad (m2 t H) Z V;refine⟨c,nX (.inr ?_),h6⟩;rw [z];exact pR (hp.symm.subset h3) h5
 ·obtain⟨m1,m2⟩:=qR hu hM;subst Z;unfold dj fq at hb;rw [J,g2.length_eq]at hb;simp only [Bool.not_false,KO,Ko]at hb;have e:=hl.good hb.1;have W:=hb.2;rw [<-e,<-gj G,g1,rS,List.any_eq_false]at W;have W:∀t∈(ak u).2,thBad (tl [t]) (cI A)=false:=λt ht=>by simpa using W t ht
  rw [uY hu];unfold aP;rw [Jn (by simpa using I)];show _=wrap (lets _ (cI Θ)) (bG (List.map (λπ=>joinS 38 (aX ((ak u).2.map λt=>thU t (asg π (lets _ (cI Θ)) ρ) (addK (lets _ (cI Θ)) (cI Θ))))) _));rw [<-e,<-gj G]
  congr 1
  symm
  have η:∀o:Tx,o.Perm (gT (ak u).1.length)->∃π:List Nat,π.Perm (ak u).1/\o.map UInt8.toNat=π.map (asgN (ak u).1 0 σ):=λo ho=>by
   refine jC ((ho.map UInt8.toNat).trans ?_);have:(gT (ak u).1.length).map UInt8.toNat=(ak u).1.map (asgN (ak u).1 0 σ):=by
    refine Lw (by simp [ik]) λi H V=>?_
    simp only [LZ];have hi:i< (ak u).1.length:=by simpa using V
    rw [jy _ _ _ _ hi (gm u hu),JC];simp [gT]
   rw [this]
  refine gu ?_ λs hs=>?_
  ·obtain⟨π,H,V⟩:=η o0 (γ _ ε);refine JL.2 ⟨π,(cT _ _).2 H,?_⟩;exact(vS.text ⟨rs,z,ha⟩ hu β G H V (γ _ ε) hm m2 W hc).symm
  ·obtain⟨π,H,rfl⟩:=JL.1 hs;have H:=(cT _ _).1 H;have h3:(π.map (asgN (ak u).1 0 σ)).Perm ((gT (ak u).1.length).map UInt8.toNat):=by
    have:(gT (ak u).1.length).map UInt8.toNat=(ak u).1.map (asgN (ak u).1 0 σ):=by
     refine Lw (by simp [ik]) λi H V=>?_
     simp only [LZ];have hi:i< (ak u).1.length:=by simpa using V
     rw [jy _ _ _ _ hi (gm u hu),JC];simp [gT]
    rw [this];exact H.map _
   obtain⟨o,h4,h5⟩:=jC h3;obtain⟨r,h6,h7⟩:=h.le o (δ rfl o h4);rw [<-h6.text hu β G H h5.symm h4 hm m2 W hc];exact h7
theorem WR.Es {on:Bool}{u:U}{σ:Nat->Nat}{Θ:Tx}(hu:Uq u)(hd:u.dead=true):WR on u σ Θ [48]:=by
 obtain⟨z,G,H,h4⟩:=oV hu hd;exact⟨by simp,wQ u,λ _=>by rw [H];rfl,λ _ _ hb=>(by rw [G]at hb;cases hb),λ _ _ _ ρ _=>by rw [z]⟩
theorem WR.BJ {on:Bool}{u:U}{σ:Nat->Nat}{Θ:Tx}(h:5< bc u):WR on u σ Θ [48]:=
 ⟨by simp,wQ u,λhm=>by omega,λhm=>by omega,λhm=>by omega⟩
theorem Ex.aR {w w':World}(h:w.grownBy w' none):Ex w w':=⟨h.os,h.tape,h.output,h.size,λg z=>h.block g z (by simp)⟩
theorem EW:∀(u:U),∀t∈(ak u).2,t.ow+(ak u).1.length<=u.ow/\t.rd<=u.rd:=by
 intro u
 induction u with
 | nil=>intro t h;simp [ak]at h
 | snd=>intro t h;simp [ak]at h;subst h;simp [ak]
 | rcv=>intro t h;simp [ak]at h;subst h;simp [ak]
 | tau=>intro t h;simp [ak]at h;subst h;simp [ak]
 | sum p q z G=>
  intro t h;simp only [ak]at h|-;split at h
  ·rename_i e;rw [JB e];have :=G t h;simp only [T.ow,T.rd];omega
  ·rename_i e;rw [Jn e];split at h
   ·rename_i H;rw [JB H];have :=z t h;simp only [T.ow,T.rd];omega
   ·rename_i H;rw [Jn H];simp at h;subst h;simp
 | par p q z G=>
  intro t h;simp only [ak,Jf]at h;simp only [ak,T.ow,T.rd,I'];have I:=iq p;have J:=iq q;rcases h with h | h
  ·have :=z t h;omega
  ·have :=G t h;omega
 | res x p z=>
  intro t h;have :=z t h;simp only [ak,T.ow,T.rd];split
  ·simp only [IW];omega
  ·omega
 | mat a b p z=>
  intro t h;simp only [ak]at h|-;split at h
  ·rename_i e;rw [JB e];exact z t h
  ·rename_i e;rw [Jn e];split at h
   ·simp at h
   ·rename_i H;rw [Jn H];simp at h;subst h;simp
 | rep p z=>
  intro t h;simp only [ak]at h|-;split at h
  ·simp at h
  ·rename_i H;rw [Jn H];simp at h;subst h;simp
theorem FX {p:P}{u:U}{ρ:UInt8->Nat}{σ:Nat->Nat}(h:AE ρ p σ u):u.rd=p.rd:=by
 induction p generalizing u ρ σ<;>cases u<;>simp only [AE]at h<;>simp only [T.rd]
 case snd.snd z _ _ _=>exact z h.2.2
 case mat.mat z _ _ _=>exact z h.2.2
 case rcv.rcv z _ _ _=>rw [z (h.2 0)]
 case res.res z _ _=>exact z (h 0)
 case tau.tau z _=>exact z h
 case rep.rep z _=>exact z h
 case sum.sum z G _ _=>rw [z h.1,G h.2]
 case par.par z G _ _=>rw [z h.1,G h.2]
theorem vT {l:Tx}{i:Nat}(h:i< l.length):List.drop (Int.toNat (i:Int)) (List.take (Int.toNat ((i:Int)+1)) l)=[bt l i]:=by
 have e:Int.toNat ((i:Int)+1)=i+1:=by omega
 rw [e,Ja,ie h];exact List.drop_left' (by rw [JJ];omega)
theorem zQ {l:Tx}{i:Nat}(h:i< l.length):List.drop i (List.take (Int.toNat ((i:Int)+1)) l)=[bt l i]:=by
 have :=vT h
 rwa [Ja]at this
theorem qc {l:Tx}{i:Nat}(h:i< l.length)(s:Tx):wrap (l.drop i) s=35::bt l i::46::wrap (l.drop (i+1)) s:=by
 rw [qP h];rfl
theorem z7:∀n,CM n:=by
 intro n
 induction n with
 | zero=>intro k p σ u Θ w bm br on R h;have :=aZ p;omega
 | succ n ih=>
  have iht:vC (n+1):=Dy ih;intro k p σ u Θ w bm br on R hn d hgf υ hmk h;refine kz _ _ _ w R ?_;intro b4 w5 α ν;have φ:Ex w w5:=ν▸Ex.alloc w _;have hsz5:w5.heap.size=b4+1:=by rw [ν,size_alloc,<-α]
  have hbm:bm< b4:=by rw [α];exact hmk.lt
  have hle:=d.bd.le;have hGL:GL b4 w5 b4 (gT 0) (.slice none 0 0) []:=by
   refine⟨by omega,Jc _,?_,?_,Own.nil _ _,(λe=>by cases e),?_,?_⟩
   ·rw [ν,α];exact aa rfl
   ·rw [ν,α];exact aa rfl
   ·rw [ν,α];unfold World.frozen? World.alloc;simp
   ·rw [ν,α];unfold World.frozen? World.alloc;simp
  have hl:=d.len;have hszt:=bs p;refine C0 _ hn d hgf (by omega) hGL (by simp only [Jh];omega) λw6 v6 ps χ hv6 β hps=>?_
  rw [JW,JC]at β;have hx6:Ex w w6:=⟨χ.os.trans φ.os,χ.tape.trans φ.tape,χ.output.trans φ.output,J0 φ.size χ.size,λg hg=>by
   rw [χ.block g (by rw [hsz5];omega) (λhS=>by
    rcases hS with H | H
    ·omega
    ·cases H)]
   exact φ.block g hg⟩
  have hpl:=hps.1;have hmlen:=iq u;rw [zT d.ae]at hmlen;have hm64:(ak u).1.length<=64:=by omega
  have hgs:=ft u;have hus:=d.ae.size;obtain⟨av,cap,hv⟩:=β.own.strs.slice;rw [Ju]at hv;refine⟨v6,β.c1,av,_,cap,hv,λused x w'=>Ex w6 w'/\∃i:Nat,x=i/\i<=ps.length/\jV used/\∀c,c∈used↔∃q∈ps.take i,q.Us c,λ _ x _=>(ps.length - x).toNat,⟨Ex.refl w6,0,rfl,by omega,List.Pairwise.nil,by simp⟩,λused x w7 hI=>?_⟩;obtain⟨hx7,i,rfl,hi,hsu,hmu⟩:=hI;have W:∀i (hi:i< ps.length),∃m τ,k<=m/\Den m ps[i] τ ((ak u).2[i]'(by omega))/\(∀y,((ak u).2[i]'(by omega)).Us y->τ y=asgN (ak u).1 0 σ y)/\GF (0+(ak u).1.length) ps[i]:=λi hi=>
   hps.2 i _ _ (IY hi) (IY (by omega))
  refine⟨λhc=>?_,λhc=>?_⟩
  ·have hc:=Jq hc;have hip:i< ps.length:=by omega
   refine β.own.strs.get hx7 (i:=i) (x:=(ps[i]).text) (by omega) (by simp [hip]) ?_;obtain⟨_,_,_,dp,_⟩:=W i hip;refine nR _ (Jc _) dp.ok λs w8 ψ hss hms=>?_
   refine jd hsu (by have :=hss.bound;omega) λs' w9 ξ hs9 hm9=>?_
   refine⟨by unfold aj;omega,⟨(hx7.trans ψ).trans ξ,i+1,by omega,by omega,hs9,λc=>?_⟩,by dsimp only;omega⟩;rw [hm9,hmu,hms,List.take_succ_eq_append_getElem hip];simp only [Jf,Jg];constructor
   ·rintro(⟨q,H,h2⟩ | H)
    ·exact⟨q,.inl H,h2⟩
    ·exact⟨_,.inr rfl,H⟩
   ·rintro⟨q,H | rfl,h2⟩
    ·exact .inl ⟨q,H,h2⟩
    ·exact .inr h2
  have hc:=Jr hc;have e:i=ps.length:=by omega
  subst e;rw [Jy]at hmu;have hGL7:=β.ex hx7;have ω:∀i,i< (ak u).1.length->gl i∈used:=λi hi=>by
   obtain⟨t,ht,hty⟩:=wV u d.uq _ (Jd hi);obtain⟨j,hj,e⟩:=JV.1 ht;have hjp:j< ps.length:=by omega
   obtain⟨m,τ,_,dp,hτ,_⟩:=W j hjp;subst e;obtain⟨c,H,h2⟩:=dp.ae.symm.used dp.inj (eQ _) _ hty;rw [hτ _ hty,jy _ _ _ _ hi (gm u d.uq),JC]at h2;have:c=gl i:=Jw.1 h2;exact(hmu _).2 ⟨_,Jd hjp,this▸H⟩
  have hglen:=ik (ak u).1.length;refine⟨λfront i w'=>Ex w7 w'/\∃j:Nat,i=j/\j<=(ak u).1.length/\front=(gT (ak u).1.length).take j,λ _ i _=>((ak u).1.length - i).toNat,⟨Ex.refl w7,0,rfl,by omega,rfl⟩,λfront i w8 hI=>?_⟩;obtain⟨ψ,j,rfl,hj,rfl⟩:=hI;have γ:=hGL7.ex ψ;refine⟨gT (ak u).1.length,γ.c0,λhc2=>?_,λhc2=>?_⟩
  ·have hc2:=Jq hc2;have hj':j< (ak u).1.length:=by omega
   have hbt:bt (gT (ak u).1.length) j=gl j:=by simp [bt,gT,hj']
   refine⟨λfront w'=>Ex w7 w'/\front=(gT (ak u).1.length).take (j+1),⟨gT (ak u).1.length,γ.c0,⟨by omega,by omega⟩,?_⟩,λfront w9 hJ=>?_⟩
   ·rw [Ja,hbt];refine gH (by have :=hsu.bound;omega) ⟨λ _=>⟨gT (ak u).1.length,γ.c0,by unfold aj;omega,⟨by omega,by omega,by omega⟩,?_,ψ,?_⟩,λhq=>absurd (ω j hj') (Jr hq)⟩
    ·rw [zQ (by omega)];simp only [JJ,IW,Jh];omega
    ·rw [zQ (by omega),ie (by omega)]
   ·obtain⟨ξ,rfl⟩:=hJ;exact⟨by unfold aj;omega,⟨ξ,j+1,by omega,by omega,rfl⟩,by dsimp only;omega⟩
  have hc2:=Jr hc2;have e:j=(ak u).1.length:=by omega
  subst e;rw [show(gT (ak u).1.length).take (ak u).1.length=gT (ak u).1.length from LA (by omega)];have κ:Ex w w8:=(hx6.trans hx7).trans ψ;have I:=hmk.ex κ;refine⟨v6,γ.c1,av,_,cap,hv,λο=>?_,λο=>?_⟩
  ·have ο:=Jq ο;have hd:=Ej d.uq (Jv (by omega));have hm0:=(oV d.uq hd).2.2.2;refine h _ w8 (Kp.ah κ _) ?_ (WR.Es d.uq hd);rw [hm0];simpa using I
  have ο:=Jr ο;have hne:(ak u).2≠[]:=λe=>ο (by rw [e]at hpl;simp only [Jh]at hpl;omega)
  refine⟨λhc4=>?_,λhc4=>?_⟩
  ·have hc4:=Jq hc4;have hlm:5< bc u:=by
    have :=wP d.uq;have h5:decide (5< (ak u).1.length)=true:=Ke (by omega);rw [h5,Bool.true_or]at this;exact Jq this
   refine⟨bm,0,rfl,⟨⟨_,I.c0⟩,I.f0⟩,λw9 hw9=>?_⟩;subst hw9;refine h _ _ (Kp.set (S:=λg=>g=bm) (Kp.ah κ _) rfl _) ?_ (WR.BJ hlm);have e5:decide (5< bc u)=true:=Ke hlm;rw [e5,Bool.or_true];exact⟨by rw [JI];exact I.lt,Jk _ _ _ I.c0,by rw [I4 _ _ _ _ (by simp)];exact I.c1,by rw [Jl];exact I.f0⟩
  have hc4:=Jr hc4;have hm5:(ak u).1.length<=5:=by omega
  intro b9 cap9 w9 hb9 _ hg9;have ξ:Ex w8 w9:=Ex.aR hg9;have hx69:Ex w w9:=κ.trans ξ;refine⟨_,_,cap9,rfl,λz all x w'=>Ex w9 w'/\∃i:Nat,x=i/\i<=(ak u).1.length/\F5 k i Θ z all,λ _ _ x _=>((ak u).1.length - x).toNat,⟨Ex.refl w9,0,rfl,by omega,F5.zero υ.srt⟩,λz all x w10 hI=>?_⟩;obtain⟨hx10,i,rfl,hi,G⟩:=hI;refine⟨λhc5=>?_,λhc5=>?_⟩
  ·have hc5:=Jq hc5;have hi':i< (ak u).1.length:=by omega
   have ω:∀c∈all,okn (k+i) c/\ngr c:=λc hc=>by
    rcases(G.ok.mem c).1 hc with H | H
    ·exact⟨(υ.okn c H).1.mono (by omega),(υ.okn c H).2⟩
    ·exact⟨(G.ok.ok c H).2.1,(G.ok.ok c H).2.2.1⟩
   refine ji (by have :=G.ok.srt.bound;omega) λc hc=>?_
   have hfr:xd (k+i) all c:=xd.of (by omega) ω hc;intro b11 ς hb11 hw11;have δ:Ex w10 ς:=hw11▸Ex.alloc w10 _;refine⟨b11,0,1,1,[c],rfl,rfl,lj _ hb11 hw11,by rw [G.ok.len];simp;omega,?_⟩;refine e8 G.ok.srt λs' η hx12 hs12 hm12=>?_
   exact⟨by unfold aj;omega,⟨(hx10.trans δ).trans hx12,i+1,by omega,by omega,G.snoc hfr hs12 hm12⟩,by dsimp only;omega⟩
  have hc5:=Jr hc5;have e:i=(ak u).1.length:=by omega
  subst e;have hx610:Ex w w10:=hx69.trans hx10;have hls:=G.ok;refine yC 5 (by omega) (Jc _) λv11 ς L δ ε hL hmL=>?_
  have hx611:Ex w ς:=hx610.trans δ;have θ:=hmk.ex hx611;have hLne:L≠[]:=λe=>by
   have :=(hmL (gT (ak u).1.length)).2 (J7 _);rw [e]at this;cases this
  have hLlen:L.length<=7776:=by
   have:(6:Nat)^(gT (ak u).1.length).length<=6^5:=Nat.pow_le_pow_right (by omega) (by omega);omega
  have hLpos:0< L.length:=Ls.2 hLne;refine⟨λv w'=>w'=ς/\∃Lo:List Tx,Strs ς v Lo/\(∀b off n c,v= .slice (some ⟨b,off,none⟩) n c->w10.heap.size<=b)/\Lo≠[]/\Lo.length<=7776/\(∀o∈Lo,o.Perm (gT (ak u).1.length))/\(on=false->∀o,o.Perm (gT (ak u).1.length)->o∈Lo),⟨bm,0,rfl,on,θ.c1,λhon=>?_,λhon=>?_⟩,λorders η hJ=>?_⟩
  ·obtain⟨g,V,cur,hvL,hbL,_⟩:∃g cap cur,v11= .slice (some ⟨g,0,none⟩) L.length cap/\w10.heap.size<=g/\ς.heap[g]?=some cur:=by
    rcases ε.2 with⟨_,hn⟩ | ⟨g,cap,cur,e,hb,hg,_⟩
    ·omega
    ·exact⟨g,cap,_,e,hb,hg⟩
   have hcap:L.length<=V:=by
    rcases ε.2 with⟨_,hn⟩ | ⟨g',cap',cur',e,hb,hg,H,h2,h3,h4⟩
    ·omega
    ·rw [hvL]at e;cases e;exact H
   refine⟨_,_,V,hvL,by omega,by omega,by omega,rfl,L.take 1,?_,λb off n c e=>?_,?_,?_,λo J=>(hmL o).1 (List.mem_of_mem_take J),λhf=>by rw [hon]at hf;cases hf⟩
   ·have hs:=ε.strs;rw [hvL]at hs;exact hs.take (k:=1) (by omega) (by omega)
   ·have ecap:¬V=Int.toNat 0:=by show ¬V=0;omega
    rw [Jn ecap]at e;simp [Addr.add]at e;omega
   ·match L,hLne with
    | a::l,_=>simp
   ·rw [JJ];omega
  ·refine⟨rfl,L,ε.strs,λb off n c e=>(ε.block b (by rw [e];rfl)).1,hLne,hLlen,λo J=>(hmL o).1 J,λ _ o J=>(hmL o).2 J⟩
  obtain⟨rfl,Lo,hsL,hbL,hLo,hLol,hLop,hLoa⟩:=hJ;have hLopos:0< Lo.length:=Ls.2 hLo;obtain⟨aL,V,hvL⟩:=hsL.slice;have Z:GL b4 η b4 (gT (ak u).1.length) v6 (ps.map T.text):=((γ.ex ξ).ex hx10).ex δ;have hb12:=Z.lt;have hbp:∀p∈ps,k+(ak u).1.length+p.rd+p.ow<=64:=λq hq=>by
   obtain⟨i,hi,rfl⟩:=JV.1 hq;obtain⟨_,_,_,dp,_⟩:=W i hi;have :=EW u _ (Jd (show i< (ak u).2.length by omega));rw [zT dp.ae,FX dp.ae,zT d.ae,FX d.ae]at this;omega
  have hszp:∀p∈ps,p.size<=n+1:=λq hq=>by
   obtain⟨i,hi,rfl⟩:=JV.1 hq;obtain⟨_,_,_,dp,_⟩:=W i hi;have :=zc u _ (Jd (show i< (ak u).2.length by omega));rw [dp.ae.size];omega
  have htl:=fg u;rw [oz d.ae,<-T.aU]at htl;generalize hbr:(br||(ak u).2.any λt=>decide (5< ax (tl [t])))=br' at*;refine⟨aL,_,V,hvL,λbest x w'=>∃i:Nat,x=i/\i<=Lo.length/\Kp η w' (λg=>g=bm)/\MK w' bm (if i=0 then br else br') on/\(i=0->best=[])/\(0< i->Ak on σ u (Lo.take i) z all best),λ _ x _=>(Lo.length - x).toNat,⟨0,rfl,by omega,Kp.ah (Ex.refl η) _,by simpa using θ,λ _=>rfl,λh=>by omega⟩,λbest x w13 hI=>?_⟩;obtain⟨i,rfl,hi,ζ,hm13,hb0,hb1⟩:=hI;refine⟨λhc6=>?_,λhc6=>?_⟩
  ·have hc6:=Jq hc6;have hi':i< Lo.length:=by omega
   refine⟨λbest w'=>Kp η w' (λg=>g=bm)/\MK w' bm br' on/\Ak on σ u (Lo.take (i+1)) z all best,?_,λbest' w14 hJ=>?_⟩
   ·have hsL13:Strs w13 orders Lo:=hsL.kp ζ λb off n c e hS=>by have :=hbL b off n c e;have :=θ.lt;have :=δ.size;have :=(hmk.ex hx610).lt;omega
    refine hsL13.get (Ex.refl w13) (i:=i) (x:=Lo[i]) (by omega) (by simp [hi']) ?_;have α:w13.heap[b4]?=η.heap[b4]?:=ζ.block b4 hb12 (by omega);refine⟨v6,by rw [IX (w:=η) α];exact Z.c1,?_⟩;have hvt:Own b4 w13 v6 (ps.map T.text):=Z.own.kp ζ λg hg e=>by have :=(Z.own.block g hg).1;omega
    refine Fb iht d.uq hne hbp hszp υ hps hls (hLop _ (Jd hi')) hm64 hvt hbm hm13 (by omega) λr w14 hk14 μ hr=>?_
    have ι:MK w14 bm br' on:=by
     rw [<-hbr];by_cases h0:i=0
     ·rw [JB h0]at μ;exact μ
     ·rw [Jn h0,<-hbr,Kz,Bool.or_self]at μ;exact μ
    have hk':=Kp.trans ζ hk14 λ _ _ h=>h
    have hrne:=hr.ne hne;have tk:Lo.take (i+1)=Lo.take i++[Lo[i]]:=Jb hi';have new:(∀o∈Lo.take i,∃r',vS on σ u o z all r'/\jk r r'=true)->Ak on σ u (Lo.take (i+1)) z all r:=λhh=>by
     rw [tk];refine⟨⟨Lo[i],Jx _ (Jg.2 rfl),hr⟩,λo J=>?_⟩;rcases Jf.1 J with J | J
     ·exact hh o J
     ·have:o=Lo[i]:=by simpa using J
      subst this;exact⟨r,hr,by simp [jk]⟩
    refine⟨λhq=>⟨λG=>⟨hk',ι,?_⟩,λG=>⟨hk',ι,?_⟩⟩,λhq=>⟨hk',ι,?_⟩⟩
    ·have hi0:0< i:=by
      rcases Lf i with h0 | h0
      ·exact absurd (hb0 h0) (Jr hq)
      ·exact h0
     rw [Mg,I0]at G;refine new λo J=>?_
     obtain⟨r',H,h2⟩:=(hb1 hi0).le o J;exact⟨r',H,gn _ _ _ (by simp only [jk,I0];exact List.le_of_lt G) h2⟩
    ·have hi0:0< i:=by
      rcases Lf i with h0 | h0
      ·exact absurd (hb0 h0) (Jr hq)
      ·exact h0
     rw [Mg,I1]at G;have hble:jk best r=true:=by simp only [jk,I0];exact List.not_lt.1 G
     obtain⟨⟨o,H,h2⟩,h3⟩:=hb1 hi0;rw [tk];refine⟨⟨o,JF _ H,h2⟩,λo' J=>?_⟩;rcases Jf.1 J with J | J
     ·exact h3 o' J
     ·have:o'=Lo[i]:=by simpa using J
      subst this;exact⟨r,hr,hble⟩
    ·have hq:=Jq hq;have hi0:i=0:=by
      rcases Lf i with h0 | h0
      ·exact h0
      ·obtain⟨⟨o,H,h2⟩,_⟩:=hb1 h0;exact absurd hq (h2.ne hne)
     exact new λo J=>by rw [hi0]at J;simp at J
   ·obtain⟨j1,j2,j3⟩:=hJ;exact⟨by unfold aj;omega,⟨i+1,by omega,by omega,j1,by simpa using j2,(λh=>by omega),λ _=>j3⟩,by dsimp only;omega⟩
  have hc6:=Jr hc6;have e:i=Lo.length:=by omega
  subst e;have hbest:=hb1 hLopos;rw [Jy]at hbest;rw [Jn (by omega)]at hm13;have hW:=WR.EV d.uq hne υ G hm64 hLop hLoa hbest;have hWl:=hW.len;rw [fI,hls.len,oz d.ae,<-T.aU]at hWl;have hll:=hls.len;refine⟨by unfold aj;omega,λb i w'=>w'=w13/\∃j:Nat,i=(j:Int) - 1/\j<=(ak u).1.length/\b=wrap (z.drop j) best,λ _ i _=>(i+1).toNat,⟨rfl,(ak u).1.length,by omega,by omega,?_⟩,λb i w14 hI=>?_⟩
  ·rw [KF (by omega)];rfl
  obtain⟨rfl,j,rfl,hj,rfl⟩:=hI;refine⟨λhc7=>?_,λhc7=>?_⟩
  ·have hc7:=Jq hc7;obtain⟨j,rfl⟩:∃j',j=j'+1:=⟨j - 1,by omega⟩
   have ej:((j+1:Nat):Int) - 1=(j:Int):=by omega
   rw [ej];have hjl:j< z.length:=by omega
   have hdl:(z.drop (j+1)).length<=64:=by rw [Kw];omega
   rw [vT hjl];refine⟨by unfold aj;omega,⟨by omega,by omega,by omega⟩,by simp,by simp,?_,by unfold aj;omega,⟨rfl,j,rfl,by omega,?_⟩,by dsimp only;omega⟩
   ·rw [fI];simp only [I',IW,Jh];omega
   ·rw [qc hjl];rfl
  ·have hc7:=Jr hc7;have e:j=0:=by omega
   subst e;rw [KG];refine h _ w14 ?_ ?_ hW
   ·exact Kp.trans (Kp.ah hx611 _) ζ λ _ _ h=>h
   ·rw [wP d.uq];have h5:decide (5< (ak u).1.length)=false:=Kk (by omega);rw [h5,Lq,hbr];exact hm13
theorem iV:∀{t:P},t.lw=true↔t.Al λc=>lt c=true
 | .nil=>by simp [T.lw,T.Al]
 | .snd a b p=>by simp [T.lw,T.Al,iV (t:=p),K9]
 | .rcv a b p=>by simp [T.lw,T.Al,iV (t:=p),K9]
 | .mat a b p=>by simp [T.lw,T.Al,iV (t:=p),K9]
 | .tau p=>by simp [T.lw,T.Al,iV (t:=p)]
 | .rep p=>by simp [T.lw,T.Al,iV (t:=p)]
 | .res x p=>by simp [T.lw,T.Al,iV (t:=p)]
 | .sum p q=>by simp [T.lw,T.Al,iV (t:=p),iV (t:=q)]
 | .par p q=>by simp [T.lw,T.Al,iV (t:=p),iV (t:=q)]
theorem lC {s:Tx}:(∃t:P,Good t/\t.text=s)↔cZ s:=by
 constructor
 ·rintro⟨t,h,rfl⟩
  exact⟨h.len,t,iV.1 h.lw,rfl,h.size⟩
 ·rintro⟨h,t,z,rfl,G⟩
  exact⟨t,⟨iV.2 z,h,G⟩,rfl⟩
theorem yD {s:Tx}(h:cZ s):∀c∈s,¬128<=c:=by
 obtain⟨t,z,rfl⟩:=lC.2 h;intro c G;have :=KP.1 (iO z.lw).2 c G;simp only [dE,KR,Ko,I1]at this;exact this.2
theorem GR {p:Tx}(H:p.length<=1099511627776){w:World}{R:ay->Bool->World->Prop}(h:∀w',Ex w w'->(cZ p->R p true w')/\(¬cZ p->R [] false w')):Calls Tryz.prog 190 #[.string (ab p)] w (an [.s,.b] R):=by
 refine vY p w R ?_;refine CH H λb w' G hb=>⟨λz=>(h w' G).2 λI=>?_,λz=>(h w' G).1 (lC.1 (hb.1 (by simpa using z)))⟩
 have :=hb.2 (lC.2 I);rw [this]at z;cases z
structure oD (k:Nat)(p:P)(σ:Nat->Nat)(u:U):Prop where
 den:Den k p σ u
 gf:GF 0 p
 nu:Nu u
 σ:∀y,u.Us y->σ y=σ0 y
theorem oD.lt {k:Nat}{p:P}{σ:Nat->Nat}{u:U}(d:oD k p σ u):(∀c,p.Us c->lt c=true/\u.Us (e0 c))/\∀y,u.Us y->p.Us (ρ0 y):=by
 constructor
 ·intro c I;obtain⟨y,z,G⟩:=d.den.ae.used (eQ p) d.den.inj c I;have J:=d.nu.fr y z;rw [d.σ y z]at G;unfold σ0 at G;have:e0 c=y:=by unfold e0;omega
  exact⟨og (by omega),this▸z⟩
 ·intro y H;obtain⟨c,z,G⟩:=d.den.ae.symm.used d.den.inj (eQ p) y H;have:c=ρ0 y:=Jw.1 (by rw [eR (d.nu.fr y H),G,d.σ y H]);exact this▸z
theorem oD.tk {k:Nat}{p:P}{σ:Nat->Nat}{u:U}(d:oD k p σ u){s:Tx}(hm:∀c,c∈s↔p.Us c):cI s=kG (td u).2:=by
 funext c
 rw [J1,pZ d.nu];unfold cI;rw [I0,hm];refine⟨d.lt.1 c,fun⟨z,G⟩=>?_⟩;have :=d.lt.2 _ G;have e:ρ0 (e0 c)=c:=by
  have :=bn z;apply Jw.1;unfold ρ0 e0;rw [J4];omega
 rwa [e]at this
theorem oD.HF {k:Nat}{p:P}{σ:Nat->Nat}{u:U}(d:oD k p σ u){s:Tx}(H:jV s)(hm:∀c,c∈s↔p.Us c):vG k s σ u:=by
 refine⟨H,λc G=>⟨d.den.bd.eb.free c (T.bz ((hm c).1 G)),?_⟩,λy z=>?_⟩
 ·have :=bn (d.lt.1 c ((hm c).1 G)).1;right;omega
 ·refine⟨ρ0 y,(hm _).2 (d.lt.2 y z),?_⟩;rw [eR (d.nu.fr y z),d.σ y z]
theorem GS {k:Nat}{p:P}{σ:Nat->Nat}{u:U}(d:oD k p σ u){w:World}{R:ay->Bool->World->Prop}
  (h:∀w',Ex w w'->(¬(bc u<=5/\cM u<=8)->R [] false w')/\∀s out,(bc u<=5/\cM u<=8)->cI s=kG (td u).2->WR false u σ s out->R out true w'):
  Calls Tryz.prog 189 #[.string (ab p.text)] w (an [.s,.b] R):=by
 refine vL _ w R ?_;intro b2 w3 hb2 ξ;have hx3:Ex w w3:=ξ▸Ex.alloc w _;have mk:∀{wx wy:World} {b:Nat} (x:Bool),b=wx.heap.size->wy=wx.alloc (.cells #[.bool false,.bool x] 233)->MK wy b false x:=by
  rintro wx wy b x rfl rfl
  refine⟨by rw [size_alloc];omega,aa rfl,aa rfl,?_⟩;unfold World.frozen? World.alloc;simp
 have hm3:=mk true hb2 ξ;refine nR _ (Jc _) d.den.ok λs w5 ο hss hms=>?_
 refine z7 _ (Jc _) d.den d.gf (d.HF hss hms) (hm3.ex ο) λr w7 V hm7 hr=>?_
 have G:Ex w w5:=hx3.trans ο;have hx7:Ex w w7:=⟨V.os.trans G.os,V.tape.trans G.tape,V.output.trans G.output,J0 G.size V.size,λg hg=>by
  rw [V.block g (Jt hg G.size) (by omega)];exact G.block g hg⟩
 intro b8 γ ς hb8 hbr δ;have I:Ex w ς:=hx7.trans (Ex.aR δ);have hrl:=hr.le d.den;have hlen:=d.den.len;obtain⟨cur,lo,hi,υ,ν,hle,_⟩:=hbr;refine⟨_,_,γ,rfl,λown x w'=>w'=ς/\∃i:Nat,x=i/\i<=r.length/\own=((r.take i).count 35:Nat),λ _ x _=>(r.length - x).toNat,⟨rfl,0,rfl,by omega,by simp⟩,λown x α hI=>?_⟩;obtain⟨rfl,i,rfl,hi,rfl⟩:=hI;refine⟨λhc=>?_,λhc=>?_⟩
 ·have hc:=Jq hc;have W:i< r.length:=by omega
  have ε:(r.take i).count 35<=i:=J0 (List.count_le_length ..) (by rw [JJ];omega);refine⟨b8,0,_,γ,rfl,by omega,by omega,bt r i,?_,λJ=>?_,λJ=>?_⟩
  ·unfold World.cell?;simp only [υ,Ja,JC,JE];have e:=Ka (λl=>l[i]?) ν;simp only [dB,K0]at e;rw [Lh,JB W]at e;simp only [IY W,KT]at e;simpa [bt,W]using e
  ·have J:=Jq J;have e:(r.take (i+1)).count 35=(r.take i).count 35+1:=by
    rw [ie W,JQ,J];simp
   exact⟨by unfold aj;omega,by unfold aj;omega,⟨rfl,i+1,by omega,by omega,by rw [e];omega⟩,by dsimp only;omega⟩
  ·have J:=Jr J;have e:(r.take (i+1)).count 35=(r.take i).count 35:=by
    rw [ie W,JQ,bj J];simp
   exact⟨by unfold aj;omega,⟨rfl,i+1,by omega,by omega,by rw [e]⟩,by dsimp only;omega⟩
 have hc:=Jr hc;have e:i=r.length:=by omega
 subst e;rw [Jy];have ζ:=hm7.ex (Ex.aR δ);rw [Lq]at ζ;refine⟨decide (5< bc u),ζ.c0,λJ=>?_,λJ=>?_⟩
 ·have J:=Jr J;have ε:=hr.cnt (by omega);rw [ε];refine⟨λZ=>?_,λZ=>?_⟩
  ·have Z:=Jq Z;exact(h α I).1 (by omega)
  ·have Z:=Jr Z;intro b25 w26 φ η;have χ:Ex α w26:=η▸Ex.alloc α _;have ψ:=mk false φ η;refine nR _ (Jc _) d.den.ok λs' w28 θ ω ι=>?_
   refine z7 _ (Jc _) d.den d.gf (d.HF ω ι) (ψ.ex θ) λr' β H κ hr'=>?_
   have z:Ex w w28:=(I.trans χ).trans θ;have hsz:=I.size;have hx30:Ex w β:=⟨H.os.trans z.os,H.tape.trans z.tape,H.output.trans z.output,J0 z.size H.size,λg hg=>by
    rw [H.block g (Jt hg z.size) (by omega)];exact z.block g hg⟩
   have hb:decide (5< bc u)=false:=Kk (by omega);rw [hb,Bool.or_self]at κ;refine⟨λw'=>Ex β w',λga μ=>⟨μ▸Ex.drew β,false,λw' hw'=>(κ.ex hw').c0,?_⟩⟩;exact(h ga (hx30.trans (μ▸Ex.drew β))).2 s' r' ⟨by omega,by omega⟩ (d.tk ι) hr'
 ·have J:=Jq J;exact(h α I).1 (by omega)
theorem yJ {k:Nat}{p:P}{σ:Nat->Nat}{u:U}(d:oD k p σ u){w:World}{R:ay->Bool->World->Prop}
  (h:∀w',Ex w w'->(∀s,jY u=some s->R s true w')/\(jY u=none->R [] false w')):
  Calls Tryz.prog 150 #[.string (ab p.text)] w (an [.s,.b] R):=by
 refine vJ _ w R ?_;refine GS d λw' hx=>⟨λhn=>⟨λ _=>(h w' hx).2 ?_,λV=>by cases V⟩,λs out hb G hr=>⟨λV=>(by cases V),λ _=>?_⟩⟩
 ·rw [ij,Jn λJ=>hn J.1]
 ·have hlen:=d.den.len;have β:=hr.le d.den;refine GR (by omega) λw2 W=>?_
  have Z:Compat ρ0 σ u:=λy hy=>by rw [eR (d.nu.fr y hy),d.σ y hy]
  have H:=h w2 (hx.trans W);cases z:dj u (kG (td u).2)with
  | true=>
   obtain⟨c,h1,h2⟩:=hr.bad hb.1 rfl (by rw [G];exact z);have α:¬cZ out:=λI=>yD I c h1 h2
   refine⟨λI=>absurd I α,λ _=>H.2 ?_⟩;rw [ij,Jn λJ=>by rw [z]at J;cases J.2.1]
  | false=>
   have e:=hr.eq hb.1 rfl (by rw [G];exact z) ρ0 Z;rw [G]at e;subst e;refine⟨λI=>H.1 _ ?_,λI=>H.2 ?_⟩
   ·rw [ij,JB ⟨hb,z,I⟩]
   ·rw [ij,Jn λJ=>I J.2.2]
end Go.Proofs.YtdecokaadekjnaaGreat
namespace Go.Proofs.YtdecokaadekjnaaGreat
open T
structure Io (O:List Nat)(F:List UInt8)(p:P)(q:U):Prop where
 ae:AE UInt8.toNat p (λz=>(asg O F ρ0 z).toNat) q
 wf:p.wf=true
 eb:Eb 0 p
 fr:∀z,q.Fr z->z∈O\/(z< 26/\ρ0 z∉F)
theorem zZ {z:Nat}(h:z< 26):lt (ρ0 z)=true:=og (by rw [eR h];unfold σ0;omega)
theorem AE.HT {ρ:UInt8->Nat}{σ:Nat->Nat}:∀{z:List P} {us:List U},kh (λp q=>AE ρ p σ q) z us->AE ρ (T.parL z) σ (T.parL us)
 | [],[],_=>trivial
 | [p],[q],.cons h _=>h
 | p::G::z,q::H::us,.cons h k=>⟨h,AE.HT k⟩
theorem kh.mono {X Y:Type}{R S:X->Y->Prop}(z:∀x y,R x y->S x y){l:List X}{m:List Y}(h:kh R l m):kh S l m:=by
 induction h with
 | nil=>exact .nil
 | cons h _ G=>exact .cons (z _ _ h) G
theorem kh.Gm {X Y:Type}{R:X->Y->Prop}{l:List X}{m:List Y}(h:kh R l m){x:X}(z:x∈l):∃y∈m,R x y:=by
 induction h with
 | nil=>cases z
 | cons h _ G=>
  rcases Jm.1 z with rfl | z
  ·exact⟨_,JK ..,h⟩
  ·obtain⟨y,H,I⟩:=G z;exact⟨y,Jj _ H,I⟩
theorem kh.Bm {X Y:Type}{R:X->Y->Prop}{l:List X}{m:List Y}(h:kh R l m){y:Y}(z:y∈m):∃x∈l,R x y:=by
 induction h with
 | nil=>cases z
 | cons h _ G=>
  rcases Jm.1 z with rfl | z
  ·exact⟨_,JK ..,h⟩
  ·obtain⟨y,H,I⟩:=G z;exact⟨y,Jj _ H,I⟩
theorem z8:∀{l:List P},(∀p∈l,p.wf=true)->(parL l).wf=true
 | [],_=>rfl
 | [p],h=>h p (by simp)
 | p::q::l,h=>by
  have z:=z8 (l:=q::l) λx G=>h x (Jj _ G)
  simp only [parL,wf,IZ];exact⟨h p (by simp),z⟩
theorem zB {p:P}(z:p.wf=true):∀{l:List UInt8},(∀c∈l,lt c=true)->(resL l p).wf=true
 | [],_=>z
 | c::l,h=>by
  simp only [resL,wf,IZ];exact⟨iw (h c (by simp)),zB z λx G=>h x (Jj _ G)⟩
theorem Ay {k:Nat}:∀{l:List P},(∀p∈l,Eb k p)->Eb k (parL l)
 | [],_=>trivial
 | [p],h=>h p (by simp)
 | p::q::l,h=>⟨h p (by simp),Ay (l:=q::l) λx z=>h x (Jj _ z)⟩
theorem yS {c:UInt8}(h:lt c=true)(k:Nat):okn k c:=by have :=bn h;unfold okn;omega
theorem Ax {p:P}(H:∀z,p.Fr z->lt z=true):∀{l:List UInt8} {k:Nat},Eb k p->(∀c∈l,lt c=true)->Eb k (resL l p)
 | [],_,G,_=>G
 | c::l,k,G,h=>by
  refine⟨⟨r7 (h c (by simp)),λz I _=>yS (H z (eZ.1 I).2) k⟩,Ax H (G.mono (by omega)) λx J=>h x (Jj _ J)⟩
theorem uZ {A:Type}(p:T A):∀l:List A,(resL l p).rd=p.rd/\(resL l p).ow=l.length+p.ow/\(resL l p).size=l.length+p.size/\(resL l p).aH=3* l.length+p.aH
 | []=>by simp [resL]
 | c::l=>by
  obtain⟨z,G,H,h4⟩:=uZ p l;simp only [resL,rd,ow,size,aH,IW];refine⟨z,?_,?_,?_⟩<;>omega
theorem xv {O:List Nat}{F:List UInt8}(hl:O.length=F.length)(hF:F.Nodup)(V:∀c∈F,lt c=true)(ho:∀x∈O,26<=x){G:List P}{us:List U}(h:kh (Io O F) G us)(nd:(O++us.flatMap BV).Nodup)(bv:∀x∈us.flatMap BV,26<=x)
  (hb:(parL G).rd+F.length+(parL G).ow<=64) (θ:(parL G).aH<=1000000000) (ι:F.length<=300):oD 0 (resL F (parL G)) σ0 (resL O (parL us)):=by
 have I:∀z,(resL O (parL us)).Fr z->z< 26/\ρ0 z∉F:=λz J=>by
  obtain⟨h1,h2⟩:=eZ.1 J;obtain⟨q,hq,W⟩:=lO.1 h2;obtain⟨p,hp,Z⟩:=h.Bm hq;exact(Z.fr z W).resolve_left h1
 have α:AE UInt8.toNat (parL G) (λz=>(asg O F ρ0 z).toNat) (parL us):=AE.HT (h.mono λp q k=>k.ae);have ζ:AE UInt8.toNat (resL F (parL G)) (λz=>(ρ0 z).toNat) (resL O (parL us)):=AE.DK O F ρ0 hl hF (λz J H=>(I z (eZ.2 ⟨H,J⟩)).2) α;have ae:AE UInt8.toNat (resL F (parL G)) σ0 (resL O (parL us)):=ζ.congr (λ _ _=>rfl) λz J=>eR (I z J).1
 have β:∀c,(parL G).Fr c->lt c=true:=λc hc=>by
  obtain⟨z,J,e⟩:=α.free c hc;have e:=Jw.1 e;obtain⟨q,hq,W⟩:=lO.1 J;obtain⟨p,hp,Z⟩:=h.Bm hq;by_cases H:z∈O
  ·rw [<-e];exact V _ (eV O F ρ0 z H hl)
  ·rw [<-e,bL _ _ _ _ H];exact zZ ((Z.fr z W).resolve_left H).1
 have γ:BV (resL O (parL us))=O++us.flatMap BV:=by rw [gg,gb]
 have δ:∀x∈BV (resL O (parL us)),26<=x:=λx hx=>by
  rw [γ]at hx;exact(Jf.1 hx).elim (ho x) (bv x)
 have ε:Uq (resL O (parL us)):=⟨by rw [γ];exact nd,λx hx hf=>by have :=δ x hx;have :=(I x hf).1;omega⟩
 obtain⟨k1,k2,k3,k4⟩:=uZ (parL G) F;have η:(resL F (parL G)).wf=true:=zB (z8 λp hp=>by obtain⟨q,_,k⟩:=h.Gm hp;exact k.wf) V;refine⟨⟨η,by rw [aU,k4];omega,⟨Ax β (Ay λp hp=>by obtain⟨q,_,k⟩:=h.Gm hp;exact k.eb) V,by rw [k1,k2];omega⟩,ae,λy z _ _ e=>by unfold σ0 at e;omega,ε⟩,λz J hG=>?_,⟨ε,λy hy=>(I y (bz hy)).1,δ⟩,λ _ _=>rfl⟩;have :=β z (eZ.1 J).2;exact absurd hG (dY (r7 this))
theorem HO:∀{u:U},Uq u->u.Nr->cM u=u.ow/\(u.dead=false->thAll (tp u.lT)=u.ow):=by
 intro u;have one:∀{u:U},u.isS=false->cM u=u.ow->cM u=u.ow/\(u.dead=false->thAll (tp u.lT)=u.ow):=λ{u} W h=>⟨h,λ _=>by rw [gi W];simp only [tp,thAll,Lp];exact h⟩
 have all:∀{u:U},Uq u->u.Nr->cM u=u.frL.length+thAll (tl u.ths):=λ{u} z n=>by unfold cM;rw [iT z n]
 induction u with
 | nil=>intro z n;exact one rfl (by rw [all z n];rfl)
 | snd a b p G=>intro z n;exact one rfl (by rw [all z n];have :=(G z.snd n).1;unfold cM at this;simp only [frL,T.ths,tl,thAll,Jh,ow];omega)
 | rcv a b p G=>intro z n;exact one rfl (by rw [all z n];have :=(G z.rcv n).1;unfold cM at this;simp only [frL,T.ths,tl,thAll,Jh,ow];omega)
 | tau p G=>intro z n;exact one rfl (by rw [all z n];have :=(G z.tau n).1;unfold cM at this;simp only [frL,T.ths,tl,thAll,Jh,ow];omega)
 | mat a b p G=>intro z n;exact one rfl (by rw [all z n];have :=(G z.mat n.2).1;unfold cM at this;simp only [frL,T.ths,tl,thAll,Jh,ow];omega)
 | rep p G=>intro z n;exact one rfl (by rw [all z n];have :=(G z.rep n.2).1;unfold cM at this;simp only [frL,T.ths,tl,thAll,Jh,ow];omega)
 | res x p G=>intro z n;exact one rfl (by rw [all z n];have :=(G z.res n.2).1;rw [all z.res n.2]at this;simp only [frL,T.ths,IW,ow];omega)
 | par p q G H=>
  intro z n;refine one rfl ?_;have I:=(G z.fM n.2.1).1;have J:=(H z.fp n.2.2).1;have Z:q.frL=[]:=by
   rcases n.1.2 with h | h
   ·exact iu h
   ·cases q<;>first | rfl | (cases h;done)
  rw [all z.fp n.2.2,Z]at J;rw [all z.fM n.2.1,iu n.1.1,mU n.1.1]at I;rw [all z n];simp only [frL,T.ths,ow,Jh]at*;rw [show p::q.ths=[p]++q.ths from rfl,gP,bX];omega
 | sum p q G H=>
  intro z n;have I:=(G z.dU n.2.1).2 n.1.1;have J:=(H z.dJ n.2.2).2 n.1.2.1;have V:thAll (tp (T.sum p q).lT)=(T.sum p q).ow:=by
   rw [gi n.1.2.2]at I;simp only [T.lT,ow];rw [show p::q.lT=[p]++q.lT from rfl,sY,bX,I,J]
  refine⟨?_,λ _=>V⟩;rw [all z n,<-V];simp only [frL,T.ths,tl,thAll,Jh,T.lT];rw [ec z.dU n.2.1 n.1.1,ec z.dJ n.2.2 n.1.2.1,gi n.1.2.2];simp
theorem lA {A B:Type}[DecidableEq A][DecidableEq B]:∀{p:T A} {q:T B} {ρ:A->Nat} {σ:B->Nat},AE ρ p σ q->p.ow=q.ow/\p.rd=q.rd/\p.size=q.size:=by
 intro p
 induction p with
 | nil=>intro q ρ σ h;cases q<;>first | exact⟨rfl,rfl,rfl⟩ | cases h
 | snd a b p z=>intro q ρ σ h;cases q<;>first | (have :=z h.2.2;simp only [ow,rd,size];omega) | cases h
 | mat a b p z=>intro q ρ σ h;cases q<;>first | (have :=z h.2.2;simp only [ow,rd,size];omega) | cases h
 | rcv a b p z=>intro q ρ σ h;cases q<;>first | (have :=z (h.2 0);simp only [ow,rd,size];omega) | cases h
 | res b p z=>intro q ρ σ h;cases q<;>first | (have :=z (h 0);simp only [ow,rd,size];omega) | cases h
 | tau p z=>intro q ρ σ h;cases q<;>first | (have :=z h;simp only [ow,rd,size];omega) | cases h
 | rep p z=>intro q ρ σ h;cases q<;>first | (have :=z h;simp only [ow,rd,size];omega) | cases h
 | sum p H z G=>intro q ρ σ h;cases q<;>first | (have :=z h.1;have :=G h.2;simp only [ow,rd,size];omega) | cases h
 | par p H z G=>intro q ρ σ h;cases q<;>first | (have :=z h.1;have :=G h.2;simp only [ow,rd,size];omega) | cases h
theorem bR {A:Type}:∀p:T A,p.rd+p.ow+1<=p.size:=by
 intro p
 induction p<;>simp only [rd,ow,size]<;>omega
theorem Di {A:Type}:∀{p:T A},(∃a b r,Off.snd a b r∈offs p)->p.rd+p.ow+2<=p.size:=by
 intro p
 induction p with
 | snd a b p=>intro _;have :=bR p;simp only [rd,ow,size];omega
 | sum p q z G=>
  rintro⟨a,b,r,h⟩
  rw [offs,Jf]at h;have I:=bR p;have H:=bR q;simp only [rd,ow,size];rcases h with h | h
  ·have :=z ⟨a,b,r,h⟩;omega
  ·have :=G ⟨a,b,r,h⟩;omega
 | rep p z=>
  rintro⟨a,b,r,h⟩
  obtain⟨o,I,H⟩:=JL.1 h;have:o= .snd a b r:=by cases o<;>simp [Off.stay]at H;simp [H]
  have :=z ⟨a,b,r,this▸I⟩;simp only [rd,ow,size];omega
 | _=>rintro⟨a,b,r,h⟩;simp [offs]at h
def gM {A:Type}(l:List (T A)):Nat:=(l.map T.ow).sum
def iN {A:Type}(l:List (T A)):Nat:=(l.map T.size).sum
def mM {A:Type}(l:List (T A)):Nat:=(l.map T.rd).sum
def eA {A:Type}(l:List (T A)):Nat:=(l.map T.aH).sum
theorem gk {A:Type}:∀(l:List (T A)),(parL l).ow=gM l/\(l≠[]->iN l+l.length<=(parL l).size+1)/\(parL l).rd<=mM l/\(parL l).aH<=eA l+3* l.length+1/\∀R,(∀p∈l,p.rd<=R)->(parL l).rd<=R
 | []=>by simp [parL,gM,iN,mM,eA,ow,rd,aH]
 | [p]=>by simp [parL,gM,iN,mM,eA];omega
 | p::q::l=>by
  obtain⟨I,z,J,h4,h5⟩:=gk (q::l);have z:=z (by simp);simp only [parL,ow,size,rd,aH,gM,iN,mM,eA,JA,J',IW]at*;refine⟨by omega,λ _=>by omega,by omega,by omega,λR G=>?_⟩;have :=h5 R λx H=>G x (Jj _ H)
  have :=G p (by simp);omega
structure SU (t:P)(u:U):Prop where
 nr:u.Nr
 nu:Nu u
 fr:∀z,u.Fr z->z< 26
 ae:AE UInt8.toNat t (λy=>(ρ0 y).toNat) u
 len:u.frL.length=t.frL.length
 two:kh (λp q=>AE UInt8.toNat p (λz=>(asg u.frL t.frL ρ0 z).toNat) q) t.ths u.ths
 fn:t.frL.Nodup
 fl:∀c∈t.frL,lt c=true
 free:∀z,(∃q∈u.ths,q.Fr z)->z∈u.frL\/(z< 26/\ρ0 z∉t.frL)
 nd:(u.frL++u.ths.flatMap BV).Nodup
 ge:∀x∈u.frL++u.ths.flatMap BV,26<=x
 smp:∀q∈u.ths,q.smp=true
 smpP:∀q∈t.ths,q.smp=true
 nrs:∀q∈u.ths,q.Nr
 al:∀p∈t.ths,p.Al λc=>lt c=true
theorem zL {A:Type}:∀{t:T A},t.smp=true->∀q∈t.ths,q.smp=true:=by
 intro t
 induction t with
 | nil=>intro _ q h;cases h
 | res x p G=>intro h;exact G h
 | par p q G z=>
  intro h r hr;simp only [smp,IZ]at h;rcases Jm.1 hr with rfl | hr
  ·exact h.1
  ·exact z h.2 r hr
 | _=>intro h q H;cases Jg.1 H;exact h
theorem He {A:Type}{D:A->Prop}:∀{t:T A},t.Al D->(∀q∈t.ths,q.Al D)/\∀c∈t.frL,D c:=by
 intro t
 induction t with
 | nil=>intro _;exact⟨λq h=>(by cases h),λc h=>(by cases h)⟩
 | res x p H=>
  intro h;obtain⟨I,J⟩:=H h.2;exact⟨I,λc z=>(Jm.1 z).elim (λe=>e▸h.1) (J c)⟩
 | par p q H G=>
  intro h;refine⟨λr hr=>?_,λc z=>(by cases z)⟩;rcases Jm.1 hr with rfl | hr
  ·exact h.1
  ·exact(G h.2).1 r hr
 | _=>intro h;exact⟨λq V=>(by cases Jg.1 V;exact h),λc z=>(by cases z)⟩
theorem mi.su {t:P}(ok:mi t):SU t (num t e0 0).1:=by
 have nu:=ku ok.al;have H:=kB ok.al;have G:=Eo ok.al;have ae:AE UInt8.toNat t (λy=>(ρ0 y).toNat) (num t e0 0).1:=H.congr (λ _ _=>rfl) λy hy=>(eR (G y hy)).symm
 have nr:(num t e0 0).1.Nr:=AE.nr H (eQ t) (λy z _ _ e=>by unfold σ0 at e;omega) ok.nr;obtain⟨hl,I⟩:=ae.open ok.nr;have J:=nr.shape;have V:=ok.nr.shape;have W:BV (num t e0 0).1=(num t e0 0).1.frL++(num t e0 0).1.ths.flatMap BV:=by
  have:BV (num t e0 0).1=BV (resL (num t e0 0).1.frL (parL (num t e0 0).1.ths)):=by rw [<-J]
  rw [this,gg,gb]
 obtain⟨β,γ⟩:=He ok.al;refine⟨nr,nu,G,ae,hl.symm,I,(ok.nr.Ci).1,γ,λz ⟨q,hq,hz⟩=>?_,by rw [<-W];exact nu.uq.nd,λx hx=>nu.bv x (by rw [W];exact hx),zL (by rw [<-rm ae];exact ok.smp),zL ok.smp,λq hq=>(nr.ths q hq).2,β⟩;by_cases Z:z∈(num t e0 0).1.frL
 ·exact .inl Z
 ·right;have α:(num t e0 0).1.Fr z:=by rw [J];exact eZ.2 ⟨Z,lO.2 ⟨q,hq,hz⟩⟩
  refine⟨G z α,λhF=>?_⟩;obtain⟨c,hc,e⟩:=ae.symm.free z α;have e:=Jw.1 e;rw [V]at hc;have :=(eZ.1 hc).1;rw [e]at this;exact this hF
section
variable {t:P} {u:U}
theorem SU.inj (su:SU t u){z y:Nat}(J:∃q∈u.ths,q.Fr z)(V:∃q∈u.ths,q.Fr y)(e:asg u.frL t.frL ρ0 z=asg u.frL t.frL ρ0 y):z=y:=by
 by_cases G:z∈u.frL<;>by_cases H:y∈u.frL
 ·exact vM u.frL t.frL ρ0 z y G H su.len su.fn e
 ·have I:=eV u.frL t.frL ρ0 z G su.len;rw [e,bL _ _ _ _ H]at I;exact absurd I ((su.free y V).resolve_left H).2
 ·have I:=eV u.frL t.frL ρ0 y H su.len;rw [<-e,bL _ _ _ _ G]at I;exact absurd I ((su.free z J).resolve_left G).2
 ·rw [bL _ _ _ _ G,bL _ _ _ _ H]at e;have W:=((su.free z J).resolve_left G).1;have Z:=((su.free y V).resolve_left H).1;have :=Ka UInt8.toNat e;rw [eR W,eR Z]at this;unfold σ0 at this;omega
theorem SU.Iq (su:SU t u):kh (Io u.frL t.frL) t.ths u.ths:=by
 have key:∀{G:List P} {us:List U},kh (λp q=>AE UInt8.toNat p (λz=>(asg u.frL t.frL ρ0 z).toNat) q) G us->(∀p∈G,p∈t.ths)->(∀q∈us,q∈u.ths)->kh (Io u.frL t.frL) G us:=by
  intro G us h
  induction h with
  | nil=>intro _ _;exact .nil
  | cons h _ J=>
   intro H I;have ha:=su.al _ (H _ (JK ..));refine .cons ⟨h,T.Al.wf ha,T.Al.eb 0 ha,λz V=>su.free z ⟨_,I _ (JK ..),V⟩⟩ (J (λp W=>H p (Jj _ W)) λq Z=>I q (Jj _ Z))
 exact key su.two (λ _ h=>h) λ _ h=>h
theorem bN {X:Type}{l m:List X}(h:l.Perm m)(g:X->Nat):(l.map g).sum=(m.map g).sum:=iL (h.map g)
theorem count_flatMap {X:Type}(g:X->List Nat)(x:Nat):∀l:List X,(l.flatMap g).count x=(l.map λy=>(g y).count x).sum
 | []=>rfl
 | y::l=>by simp only [KE,JQ,JA,J',count_flatMap g x l]
theorem mi.GY (ok:mi t):t.frL.length+gM t.ths=t.ow/\t.rd=(parL t.ths).rd/\(t.ths≠[]->t.frL.length+iN t.ths+t.ths.length<=t.size+1)/\t.frL.length+3* t.frL.length+t.ths.length<=400/\eA t.ths<=400/\t.ow<=8:=by
 have Z:=ok.nr.shape;obtain⟨G,J,h3,h4⟩:=uZ (parL t.ths) t.frL;obtain⟨V,W,k3,k4,_⟩:=gk t.ths;rw [<-Z]at G J h3 h4;have hlen:=ok.len;rw [aU,h4]at hlen;have α:=ok.size;have z:∀l:List P,eA l<=(parL l).aH/\l.length<=(parL l).aH:=λl=>by
  have:∀l:List P,eA l+3* l.length<=(parL l).aH+3:=by
   intro l
   induction l with
   | nil=>simp [eA,parL,T.aH]
   | cons p l ih=>
    cases l with
    | nil=>simp [eA,parL]
    | cons q l=>
     simp only [parL,T.aH,eA,JA,J',IW]at ih|-;omega
  have G:∀p:P,1<=p.aH:=λp=>by cases p<;>simp only [T.aH]<;>omega
  cases l with
  | nil=>simp [eA]
  | cons p l=>
   have V:=this (p::l);have W:=G p;have k3:1<=eA (p::l):=by simp only [eA,JA,J'];omega
   have k4:1<=(p::l).length:=by simp
   omega
 have H:t.ow<=8:=by
  have su:=ok.su;have :=(HO su.nu.uq su.nr).1;have h8:=ok.all;have h9:=(lA su.ae).1;omega
 refine⟨by rw [J,V],G,λI=>by have :=W I;omega,?_,?_,H⟩
 ·have :=(z t.ths).2;omega
 ·have :=(z t.ths).1;omega
theorem SU.cnt (su:SU t u)(x:Nat):u.frL.count x+(u.ths.map λy=>(BV y).count x).sum<=1:=by
 have z:=K7.1 su.nd x;rw [JQ,count_flatMap]at z;exact z
theorem dR {A:Type}:∀p:T A,p.aH<=5* p.size:=by intro p;induction p<;>simp only [aH,size]<;>omega
theorem Ao (ok:mi t)(su:SU t u){i:Nat}(hi:i< t.ths.length)(α:i< u.ths.length){p:P}{I:U}(ho:Off.tau p∈offs t.ths[i])(β:Off.tau I∈offs u.ths[i])(ε:qk UInt8.toNat (λz=>(asg u.frL t.frL ρ0 z).toNat) (.tau p) (.tau I)):
  oD 0 (resL t.frL (parL (wo t.ths i i++[p]))) σ0 (resL u.frL (parL (wo u.ths i i++[I])))/\(resL u.frL (parL (wo u.ths i i++[I]))).smp=true:=by
 have V:=Jd hi;have J:=Jd α;obtain⟨sP,_⟩:=aV (su.smpP _ V) _ ho;obtain⟨sU,_⟩:=aV (su.smp _ J) _ β;have bU:=gh _ β;have al:=sP.al _ (su.al _ V);have H:=zt t.ths i hi;have W:=zt u.ths i α;obtain⟨n1,n2,n3,n4,n5,n6⟩:=ok.GY;have η:=ok.size;obtain⟨k1,k2,k3,k4,k5⟩:=gk (wo t.ths i i++[p]);have γ:=H.length_eq;have so:=bN H T.ow;have ss:=bN H T.size;have st:=bN H T.aH;simp only [JA,J',IW]at so ss st γ;have s1:=sP.ow;have s2:=sP.size;have s3:=sP.rd;simp only [Off.tm,ow,size,rd]at s1 s2 s3;have θ:=dR p;have ι:=bR t;have ζ:t.ths≠[]:=λe=>by rw [e]at hi;cases hi
 have n3:=n3 ζ;simp only [gM,iN,eA,mM,JY,Mb,JA,KV,J',List.sum_nil,I',IW,Jh]at*;have κ:(parL (wo t.ths i i++[p])).rd<=t.rd:=by
  refine k5 t.rd λx G=>?_
  rw [n2];have h6:∀x∈t.ths,x.rd<=(parL t.ths).rd:=by
   have:∀l:List P,∀x∈l,x.rd<=(parL l).rd:=by
    intro l
    induction l with
    | nil=>intro x h;cases h
    | cons p l ih=>
     intro x G;cases l with
     | nil=>rw [Jg]at G;subst G;exact Jc _
     | cons q l=>
      simp only [parL,T.rd];rcases Jm.1 G with rfl | G
      ·exact Nat.le_max_left _ _
      ·exact J0 (ih x G) (Nat.le_max_right _ _)
   exact this t.ths
  rcases Jf.1 G with G | G
  ·exact h6 x (ll G)
  ·rw [Jg]at G;subst G;exact J0 s3 (h6 _ V)
 refine⟨xv su.len su.fn su.fl (λx G=>su.ge x (JF _ G)) (us:=wo u.ths i i++[I]) ?_ ?_ ?_ ?_ ?_ ?_,?_⟩
 ·refine(su.Iq.wo i i).app (.cons ⟨ε,T.Al.wf al,T.Al.eb 0 al,λz hz=>su.free z ⟨_,J,sU.fr z hz⟩⟩ .nil)
 ·rw [K7];intro x;have h1:u.frL.count x+(u.ths.map λy=>(BV y).count x).sum<=1:=su.cnt x;have h2:(BV I).count x<=(BV u.ths[i]).count x:=bU.count_le x;have h3:(u.ths.map λy=>(BV y).count x).sum=(BV u.ths[i]).count x+((wo u.ths i i).map λy=>(BV y).count x).sum:=by
   have :=bN W λy=>(BV y).count x
   simpa only [JA,J']using this
  have h4:(u.frL++(wo u.ths i i++[I]).flatMap BV).count x=u.frL.count x+(((wo u.ths i i).map λy=>(BV y).count x).sum+(BV I).count x):=by
   rw [JQ,count_flatMap];simp
  have:u.frL.count x+(((wo u.ths i i).map λy=>(BV y).count x).sum+(BV I).count x)<=1:=by omega
  exact J0 (Nat.le_of_eq h4) this
 ·intro x G;refine su.ge x (Jx _ ?_);obtain⟨q,Z,δ⟩:=JR.1 G;rcases Jf.1 Z with Z | Z
  ·exact JR.2 ⟨q,ll Z,δ⟩
  ·rw [Jg]at Z;subst Z;exact JR.2 ⟨_,J,bU.subset δ⟩
 ·omega
 ·omega
 ·omega
 ·rw [rL];refine rY λx G=>?_
  rcases Jf.1 G with G | G
  ·exact su.smp x (ll G)
  ·rw [Jg]at G;subst G;exact sU.smp (su.smp _ J)
end
section
variable {t:P} {u:U}
theorem SU.kQ (su:SU t u){k:Nat}(I:k< u.ths.length){r:U}(J:Sub r u.ths[k])(hb:(BV r).Sublist (BV u.ths[k])):Uq r:=by
 have hm:=Jd I;have z:(BV u.ths[k]).Sublist (u.ths.flatMap BV):=by
  rw [List.flatMap_def];exact List.sublist_flatten_of_mem (KC hm)
 have G:=(JG.1 su.nd)
 refine⟨G.2.1.sublist (hb.trans z),λx V W=>?_⟩;have H:=z.subset (hb.subset V);have Z:=su.ge x (Jx _ H);rcases su.free x ⟨_,hm,J.fr x W⟩with h | h
 ·exact G.2.2 x h x H rfl
 ·omega
theorem HU {A:Type}:∀l:List (T A),mM l+gM l+l.length<=iN l
 | []=>by simp [mM,gM,iN]
 | p::l=>by
  have z:=HU l;have G:=bR p;simp only [mM,gM,iN,JA,J',IW]at*;omega
theorem D6 {A:Type}:∀l:List (T A),∀x∈l,x.rd<=(parL l).rd:=by
 intro l
 induction l with
 | nil=>intro x h;cases h
 | cons p l G=>
  intro x z;cases l with
  | nil=>cases Jg.1 z;exact Jc _
  | cons q l=>
   simp only [parL,T.rd];rcases Jm.1 z with rfl | z
   ·exact Nat.le_max_left _ _
   ·exact J0 (G x z) (Nat.le_max_right _ _)
theorem xQ {p q:P}(h:p.shp=q.shp):p.rd=q.rd/\p.ow=q.ow/\p.aH=q.aH:=by
 have key:∀p:P,p.shp.rd=p.rd/\p.shp.ow=p.ow:=λp=>by
  unfold T.shp
  induction p<;>simp_all [T.map,T.rd,T.ow]
 refine⟨by rw [<-(key p).1,<-(key q).1,h],by rw [<-(key p).2,<-(key q).2,h],iS h⟩
def bD {A:Type}(l:List (T A))(i k:Nat)(p q:T A)(s:Bool)(x:T A):List (T A):=wo l i k++[p,q]++if s then [x]else []
theorem wv (ok:mi t)(su:SU t u){i k:Nat}(hi:i< t.ths.length)(θ:i< u.ths.length)(hk:k< t.ths.length)(β:k< u.ths.length)(ι:i≠k){a b:UInt8}{p:P}{c d:Nat}{p':U}(ho:Off.snd a b p∈offs t.ths[i])(κ:Off.snd c d p'∈offs u.ths[i])
  (hae:qk UInt8.toNat (λz=>(asg u.frL t.frL ρ0 z).toNat) (.snd a b p) (.snd c d p')) {e x:UInt8} {q:P} {s:Bool} {e' x':Nat} {H:U} {s':Bool} (hr:Off.rcv e x q s∈offs t.ths[k]) (μ:Off.rcv e' x' H s'∈offs u.ths[k])
  (har:qk UInt8.toNat (λz=>(asg u.frL t.frL ρ0 z).toNat) (.rcv e x q s) (.rcv e' x' H s')) {f:Nat->Nat} {N:Nat} (hf:D1 N H x' d f) (hN:∀z,(z∈u.frL\/z∈u.ths.flatMap BV\/∃q∈u.ths,q.Fr z)->z<=N) (h25:25<=N) {Z:P} (γ:iH 0 q x b Z):
  oD 0 (resL t.frL (parL (bD t.ths i k p Z s t.ths[k]))) σ0 (resL u.frL (parL (bD u.ths i k p' (H.map f) s' u.ths[k])))/\(resL u.frL (parL (bD u.ths i k p' (H.map f) s' u.ths[k]))).smp=true:=by
 obtain⟨_,hbd,ν⟩:=hae;obtain⟨_,ξ,rfl⟩:=har;have ε:=Jd hi;have W:=Jd θ;have ζ:=Jd hk;have J:=Jd β;obtain⟨sP,_⟩:=aV (su.smpP _ ε) _ ho;obtain⟨sU,_⟩:=aV (su.smp _ W) _ κ;obtain⟨rP,rR⟩:=aV (su.smpP _ ζ) _ hr;obtain⟨rU,_⟩:=aV (su.smp _ J) _ μ;have bU:=gh _ κ;have cU:=gh _ μ;have al:=(sP.al _ (su.al _ ε)).2.2;have G:=za t.ths i k hi hk ι;have η:=za u.ths i k θ β ι;have ο:=su.kQ β rU cU;have δ:Uq H:=ο.rcv;have ς:x'∉BV H:=ο.lk;have hd:d<=N:=hN d (.inr (.inr ⟨_,W,sU.fr d (.inr (.inl rfl))⟩));have υ:∀z,H.Fr z->z<=N:=λz I=>by
  by_cases h:z=x'
  ·subst h;exact hN z (.inr (.inl (JR.2 ⟨_,J,cU.subset (JK ..)⟩)))
  ·exact hN z (.inr (.inr ⟨_,J,rU.fr z (.inr ⟨h,I⟩)⟩))
 have φ:∀z∈BV H,z<=N:=λz I=>hN z (.inr (.inl (JR.2 ⟨_,J,cU.subset (Jj _ I)⟩)))
 have ae2:AE UInt8.toNat Z (λz=>(asg u.frL t.frL ρ0 z).toNat) (H.map f):=by
  have k1:=(γ.ok UInt8.toNat).symm;have k2:=ξ b.toNat;have k3:=hf.ae δ ς υ hd φ (λz=>(asg u.frL t.frL ρ0 z).toNat);rw [show b.toNat=(asg u.frL t.frL ρ0 d).toNat from hbd]at k1 k2;exact(k1.trans k2).trans k3
 have χ:∀z,(H.map f).Fr z->∃q∈u.ths,q.Fr z:=λz I=>by
  rcases hf.fr δ z I with h | ⟨h,h'⟩
  ·subst h;exact⟨_,W,sU.fr z (.inr (.inl rfl))⟩
  ·exact⟨_,J,rU.fr z (.inr ⟨h,h'⟩)⟩
 obtain⟨n1,n2,n3,n4,n5,n6⟩:=ok.GY;have hsz:=ok.size;obtain⟨g1,g2,g3⟩:=xQ γ.shp;have ψ:=G.length_eq;have so:=bN G T.ow;have ss:=bN G T.size;have st:=bN G T.aH;have sr:=bN G T.rd;simp only [JA,J',IW]at so ss st sr ψ;have s1:=sP.ow;have s2:=sP.size;have s3:=sP.rd;have r1:=rP.ow;have r2:=rP.size;have r3:=rP.rd;simp only [Off.tm,ow,size,rd]at s1 s2 s3 r1 r2 r3;have tl1:=dR p;have tl2:=dR q;have hro:=bR t;have hne:t.ths≠[]:=λe=>by rw [e]at hi;cases hi
 have n3:=n3 hne;have sum:=HU (wo t.ths i k);have snd2:=Di ⟨a,b,p,ho⟩;have rk:=bR t.ths[k];have rdt:=(gk t.ths).2.2.1;have h6:=D6 t.ths;have hrd:(parL (bD t.ths i k p Z s t.ths[k])).rd<=t.rd:=by
  refine(gk _).2.2.2.2 t.rd λx V=>?_
  rw [n2];unfold bD at V;rcases Jf.1 V with V | V
  ·rcases Jf.1 V with V | V
   ·exact h6 x (ll V)
   ·rcases Jm.1 V with rfl | V
    ·exact J0 s3 (h6 _ ε)
    ·cases Jg.1 V;have :=h6 _ ζ;omega
  ·cases s
   ·cases V
   ·cases Jg.1 V;exact h6 _ ζ
 obtain⟨k1,_,_,k4,_⟩:=gk (bD t.ths i k p Z s t.ths[k]);have kow:gM (bD t.ths i k p Z s t.ths[k])=gM (wo t.ths i k)+p.ow+Z.ow+if s then t.ths[k].ow else 0:=by
  unfold bD gM;cases s<;>simp<;>omega
 have ktl:eA (bD t.ths i k p Z s t.ths[k])+3* (bD t.ths i k p Z s t.ths[k]).length<=eA (wo t.ths i k)+3* (wo t.ths i k).length+p.aH+Z.aH+t.ths[k].aH+9:=by
  unfold bD eA;cases s<;>simp<;>omega
 have hbound:(parL (bD t.ths i k p Z s t.ths[k])).rd+t.frL.length+(parL (bD t.ths i k p Z s t.ths[k])).ow<=64:=by
  rw [k1,kow];cases s
  ·simp only [KW,LF,gM,iN,mM]at*;omega
  ·have e2:=rR e x q rfl;have e3:t.ths[k].ow=q.ow/\t.ths[k].rd=q.rd+1/\t.ths[k].size=q.size+2:=by rw [e2];simp [T.ow,T.rd,T.size]
   have rq:=bR q;simp only [KU,gM,iN,mM]at*;omega
 refine⟨xv su.len su.fn su.fl (λx V=>su.ge x (JF _ V)) (us:=bD u.ths i k p' (H.map f) s u.ths[k]) ?_ ?_ ?_ hbound ?_ ?_,?_⟩
 ·unfold bD;refine((su.Iq.wo i k).app (.cons ⟨ν,T.Al.wf al,T.Al.eb 0 al,λz I=>su.free z ⟨_,W,sU.fr z (.inr (.inr I))⟩⟩ (.cons ⟨ae2,γ.wf,γ.eb,λz I=>su.free z (χ z I)⟩ .nil))).app ?_;cases s
  ·exact .nil
  ·exact .cons (su.Iq.get hk β) .nil
 ·rw [K7];intro z;have h1:u.frL.count z+(u.ths.map λy=>(BV y).count z).sum<=1:=su.cnt z;have h2:(BV p').count z<=(BV u.ths[i]).count z:=bU.count_le z;have h3:(u.ths.map λy=>(BV y).count z).sum=(BV u.ths[i]).count z+((BV u.ths[k]).count z+((wo u.ths i k).map λy=>(BV y).count z).sum):=by
   have :=bN η λy=>(BV y).count z
   simpa only [JA,J']using this
  have h4:(u.frL++(bD u.ths i k p' (H.map f) s u.ths[k]).flatMap BV).count z=u.frL.count z+(((wo u.ths i k).map λy=>(BV y).count z).sum+(BV p').count z+(BV (H.map f)).count z+if s then(BV u.ths[k]).count z else 0):=by
   unfold bD;rw [JQ,count_flatMap];cases s<;>simp<;>omega
  have ω:(BV (H.map f)).count z=0\/(N< z/\(BV (H.map f)).count z<=1):=by
   rw [fP];by_cases h:z∈(BV H).map f
   ·right;obtain⟨y,hy,e⟩:=JL.1 h;refine⟨by rw [<-e];exact hf.fb y hy,?_⟩;have:((BV H).map f).Nodup:=by
     have:∀l:List Nat,l.Nodup->(∀z∈l,z∈BV H)->(l.map f).Nodup:=by
      intro l
      induction l with
      | nil=>intro _ _;exact Ky
      | cons y l ih=>
       intro hn hm;have hn:=J2.1 hn;refine J2.2 ⟨λh=>?_,ih hn.2 λz I=>hm z (Jj _ I)⟩;obtain⟨z,I,e⟩:=JL.1 h;have :=hf.fi z (hm z (Jj _ I)) y (hm y (JK ..)) e;exact hn.1 (this▸I)
     exact this (BV H) δ.nd λ _ h=>h
    exact K7.1 this z
   ·exact .inl (List.count_eq_zero.2 h)
  have hbig:N< z->u.frL.count z+(u.ths.map λy=>(BV y).count z).sum=0:=λI=>by
   rw [<-count_flatMap,<-JQ];refine List.count_eq_zero.2 λhm=>?_
   have :=hN z ((Jf.1 hm).imp id .inl);omega
  have:u.frL.count z+(((wo u.ths i k).map λy=>(BV y).count z).sum+(BV p').count z+(BV (H.map f)).count z+if s then(BV u.ths[k]).count z else 0)<=1:=by
   rcases ω with h | ⟨I,h⟩
   ·cases s<;>simp only [KU,KW,LF]<;>omega
   ·have :=hbig I;cases s<;>simp only [KU,KW,LF]<;>omega
  exact J0 (Nat.le_of_eq h4) this
 ·intro z I;obtain⟨r,hr2,α⟩:=JR.1 I;have old:∀r∈u.ths,z∈BV r->26<=z:=λr h1 h2=>su.ge z (Jx _ (JR.2 ⟨r,h1,h2⟩))
  unfold bD at hr2;rcases Jf.1 hr2 with h | h
  ·rcases Jf.1 h with h | h
   ·exact old r (ll h) α
   ·rcases Jm.1 h with rfl | h
    ·exact old _ W (bU.subset α)
    ·cases Jg.1 h;rw [fP]at α;obtain⟨y,hy,e⟩:=JL.1 α;have :=hf.fb y hy;omega
  ·cases s
   ·cases h
   ·cases Jg.1 h;exact old _ J α
 ·simp only [eA,iN,gM]at*;omega
 ·omega
 ·rw [rL];have hsm:(H.map f).smp=true:=by
   have h1:=hf.ae δ ς υ hd φ id;rw [<-rm h1];have :=rU.smp (su.smp _ J);exact this
  refine rY λy hy=>?_
  unfold bD at hy;rcases Jf.1 hy with h | h
  ·rcases Jf.1 h with h | h
   ·exact su.smp y (ll h)
   ·rcases Jm.1 h with rfl | h
    ·exact sU.smp (su.smp _ W)
    ·cases Jg.1 h;exact hsm
  ·cases s
   ·cases h
   ·cases Jg.1 h;exact su.smp _ J
end
end Go.Proofs.YtdecokaadekjnaaGreat
namespace Go.Proofs.YtdecokaadekjnaaGreat
open Go Go.RowKit T
theorem Hr (w:World){t:P}{k:Nat}{old nw:UInt8}(ok:Ok t)(eb:Eb k t)(hb:k+t.bd<=64)(z:nm nw=true)(G:okn k nw):∃q,iH k t old nw q:=by
 have h:=gO t.size (old:=old) (Jc _) ok eb hb z G (w:=w) (R:=λ _ _=>∃q,iH k t old nw q) λq w' _ H=>⟨q,H⟩
 obtain⟨e,w',fr,hr,_⟩:=h [];obtain⟨_,hr⟩:=hr;exact hr.2
def Ff (N:Nat)(q:U)(x b:Nat):Nat->Nat:=λz=>if z=x then b else if z∈BV q then z+N+1 else z
theorem yp (N:Nat){q:U}{x:Nat}(b:Nat)(I:x∉BV q):D1 N q x b (Ff N q x b):=by
 refine⟨JB rfl,λz G J=>?_,λz H=>?_,λz H y V e=>?_⟩
 ·simp only [Ff,Jn G,Jn J]
 ·have G:z≠x:=λe=>I (e▸H)
  simp only [Ff,Jn G,JB H];omega
 ·have G:z≠x:=λe=>I (e▸H)
  have J:y≠x:=λe=>I (e▸V)
  simp only [Ff,Jn G,JB H,Jn J,JB V]at e;omega
def NN (u:U):Nat:=(BV u).sum+26
def Hx (u:U)(i:Nat)(p:U):U:=resL u.frL (parL (wo u.ths i i++[p]))
def BM (u:U)(i k:Nat)(p q:U)(s:Bool):U:=resL u.frL (parL (bD u.ths i k p q s (u.ths.getD k .nil)))
def E3 (u:U)(i k c d:Nat)(p:U):Off Nat->List U
 | .rcv e x q s=>if e=c then [BM u i k p (q.map (Ff (NN u) q x d)) s]else []
 | _=>[]
def E2 (u:U)(i c d:Nat)(p:U)(k:Nat):List U:=if i=k then []else(offs (u.ths.getD k .nil)).flatMap (E3 u i k c d p)
def E1 (u:U)(i:Nat):Off Nat->List U
 | .tau p=>[Hx u i p]
 | .snd c d p=>(List.range u.ths.length).flatMap (E2 u i c d p)
 | .rcv .. =>[]
def E0 (u:U)(i:Nat):List U:=(offs (u.ths.getD i .nil)).flatMap (E1 u i)
def gL (u:U):List U:=(List.range u.ths.length).flatMap (E0 u)
noncomputable def outs (l:List U):List Tx:=l.map λv=>(jY v).getD []
noncomputable def jc (l:List U):Bool:=l.all λv=>(jY v).isSome
noncomputable def BO (u:U):Option (List Tx):=if jc (gL u)then some (dd (aX (outs (gL u))))else none
theorem xy (l m:List U):outs (l++m)=outs l++outs m:=JY ..
theorem ue (l m:List U):jc (l++m)=(jc l&&jc m):=Lm ..
section
variable {t:P} {u:U}
theorem SU.bound (su:SU t u):∀z,(z∈u.frL\/z∈u.ths.flatMap BV\/∃q∈u.ths,q.Fr z)->z<=NN u:=by
 have H:=su.nr.shape;have G:BV u=u.frL++u.ths.flatMap BV:=by
  have:BV u=BV (resL u.frL (parL u.ths)):=by rw [<-H]
  rw [this,gg,gb]
 have key:∀z∈BV u,z<=NN u:=λz I=>by have :=uO I;unfold NN;omega
 intro z I;rcases I with h | h | h
 ·exact key z (by rw [G];exact JF _ h)
 ·exact key z (by rw [G];exact Jx _ h)
 ·rcases su.free z h with h | h
  ·exact key z (by rw [G];exact JF _ h)
  ·unfold NN;omega
theorem DN (ok:mi t)(su:SU t u){i:Nat}(I:i< u.ths.length){p:U}(J:Off.tau p∈offs u.ths[i]):Nu (Hx u i p)/\(Hx u i p).smp=true:=by
 have hl:=su.two.len;have z:i< t.ths.length:=by omega
 obtain⟨V,H,G⟩:=(jB (su.two.get z I)).Bm J;cases V<;>try cases G
 obtain⟨W,Z⟩:=Ao ok su z I H J G;exact⟨W.nu,Z⟩
theorem HV (ok:mi t)(su:SU t u){k:Nat}(z:k< t.ths.length){e x:UInt8}{q:P}{s:Bool}(hr:Off.rcv e x q s∈offs t.ths[k]):Ok q/\Eb 0 q/\0+q.bd<=64:=by
 have hm:=Jd z;obtain⟨sub,_⟩:=aV (su.smpP _ hm) _ hr;have al:=sub.al _ (su.al _ hm);have J:=sub.size;obtain⟨_,_,G,_,_,_⟩:=ok.GY;have G:=G (λe=>by rw [e]at z;cases z);have V:=ok.size;have H:t.ths[k].size<=iN t.ths:=uO (JL.2 ⟨_,hm,rfl⟩);simp only [Off.tm,size]at J;have :=bR q;have :=T.xm q;have :=dR q;have I:1<=t.ths.length:=by omega
 exact⟨⟨T.Al.wf al.2.2,by rw [aU];omega⟩,T.Al.eb 0 al.2.2,by omega⟩
theorem rb (w:World)(ok:mi t)(su:SU t u){i k:Nat}(hi:i< u.ths.length)(hk:k< u.ths.length)(W:i≠k){c d:Nat}{p:U}(ho:Off.snd c d p∈offs u.ths[i]){e x:Nat}{q:U}{s:Bool}(hr:Off.rcv e x q s∈offs u.ths[k])
  {f:Nat->Nat} {N:Nat} (hf:D1 N q x d f) (hN:∀z,(z∈u.frL\/z∈u.ths.flatMap BV\/∃q∈u.ths,q.Fr z)->z<=N) (Z:25<=N):Nu (resL u.frL (parL (bD u.ths i k p (q.map f) s u.ths[k])))/\(resL u.frL (parL (bD u.ths i k p (q.map f) s u.ths[k]))).smp=true:=by
 have hl:=su.two.len;have G:i< t.ths.length:=by omega
 have H:k< t.ths.length:=by omega
 obtain⟨o',I,α⟩:=(jB (su.two.get G hi)).Bm ho;obtain⟨r',J,β⟩:=(jB (su.two.get H hk)).Bm hr;cases o'<;>try cases α
 cases r'<;>try cases β
 rename_i a b p' γ δ e' x' q' s' ε ζ;obtain⟨h1,h2,h3⟩:=HV ok su H J;have V:=Jd G;obtain⟨sP,_⟩:=aV (su.smpP _ V) _ I;have al:=(sP.al _ (su.al _ V)).2.1;obtain⟨q2,η⟩:=Hr w h1 h2 h3 (old:=x') (nw:=b) (iw al) (yS al 0);obtain⟨k1,k2⟩:=wv ok su G hi H hk W I ho ⟨γ,δ⟩ J hr ⟨ε,ζ⟩ hf hN Z η;exact⟨k1.nu,k2⟩
theorem AE.HQ {p q:U}(h:∀σ:Nat->Nat,AE σ p σ q):∀(o:List Nat) (σ:Nat->Nat),AE σ (resL o p) σ (resL o q)
 | [],σ=>h σ
 | x::o,σ=>λv=>AE.HQ h o (aE σ x v)
theorem AS (w:World)(ok:mi t)(su:SU t u){i k:Nat}(hi:i< u.ths.length)(hk:k< u.ths.length)(I:i≠k){c d:Nat}{p:U}(ho:Off.snd c d p∈offs u.ths[i]){e x:Nat}{q:U}{s:Bool}(hr:Off.rcv e x q s∈offs u.ths[k])
  {f f':Nat->Nat} {N N':Nat} (hf:D1 N q x d f) (hN:∀z,(z∈u.frL\/z∈u.ths.flatMap BV\/∃q∈u.ths,q.Fr z)->z<=N) (α:25<=N) (J:D1 N' q x d f') (V:∀z,(z∈u.frL\/z∈u.ths.flatMap BV\/∃q∈u.ths,q.Fr z)->z<=N') (W:25<=N'):
  jY (resL u.frL (parL (bD u.ths i k p (q.map f) s u.ths[k])))=jY (resL u.frL (parL (bD u.ths i k p (q.map f') s u.ths[k]))):=by
 have G:=Jd hk;have Z:=Jd hi;obtain⟨sU,_⟩:=aV (su.smp _ Z) _ ho;obtain⟨rU,_⟩:=aV (su.smp _ G) _ hr;have cU:=gh _ hr;have H:=su.kQ hk rU cU;have nq:∀M,(∀z,(z∈u.frL\/z∈u.ths.flatMap BV\/∃q∈u.ths,q.Fr z)->z<=M)->(∀z,q.Fr z->z<=M)/\d<=M/\∀z∈BV q,z<=M:=λM hM=>by
  refine⟨λz hz=>?_,hM d (.inr (.inr ⟨_,Z,sU.fr d (.inr (.inl rfl))⟩)),λz hz=>hM z (.inr (.inl (JR.2 ⟨_,G,cU.subset (Jj _ hz)⟩)))⟩;by_cases h:z=x
  ·subst h;exact hM z (.inr (.inl (JR.2 ⟨_,G,cU.subset (JK ..)⟩)))
  ·exact hM z (.inr (.inr ⟨_,G,rU.fr z (.inr ⟨h,hz⟩)⟩))
 obtain⟨a1,a2,a3⟩:=nq N hN;obtain⟨b1,b2,b3⟩:=nq N' V;have hq:∀σ:Nat->Nat,AE σ (q.map f) σ (q.map f'):=λσ=>(hf.ae H.rcv H.lk a1 a2 a3 σ).symm.trans (J.ae H.rcv H.lk b1 b2 b3 σ)
 refine DL (rb w ok su hi hk I ho hr hf hN α).1 (rb w ok su hi hk I ho hr J V W).1 (AE.HQ (λσ=>?_) _ _);have refl:∀l:List U,kh (λp q=>AE σ p σ q) l l:=λl=>by
  induction l with
  | nil=>exact .nil
  | cons p l ih=>exact .cons (AE.refl p σ) ih
 have:kh (λp q=>AE σ p σ q) (bD u.ths i k p (q.map f) s u.ths[k]) (bD u.ths i k p (q.map f') s u.ths[k]):=by
  unfold bD;exact((refl _).app (.cons (AE.refl p σ) (.cons (hq σ) .nil))).app (refl _)
 have key:∀{ps us:List U},kh (λp q=>AE σ p σ q) ps us->AE σ (T.parL ps) σ (T.parL us):=by
  intro ps us h
  induction h with
  | nil=>trivial
  | cons h k ih=>
   cases k with
   | nil=>exact h
   | cons h' k'=>exact⟨h,ih⟩
 exact key this
theorem cL {l:List U}{k:Nat}(h:k< l.length):l.getD k .nil=l[k]:=by simp [List.getD,h]
theorem DB (w:World)(ok:mi t)(su:SU t u):∀v∈gL u,Nu v/\v.smp=true:=by
 intro v z;unfold gL E0 at z;obtain⟨i,I,z⟩:=JR.1 z;rw [Ku]at I;rw [cL I]at z;obtain⟨o,Z,z⟩:=JR.1 z;cases o with
 | tau p=>cases Jg.1 z;exact DN ok su I Z
 | rcv=>cases z
 | snd c d p=>
  obtain⟨k,G,z⟩:=JR.1 z;rw [Ku]at G;unfold E2 at z;split at z
  ·cases z
  ·rename_i J;rw [cL G]at z;obtain⟨r,hr,z⟩:=JR.1 z;cases r with
   | tau=>cases z
   | snd=>cases z
   | rcv e x q s=>
    have z:v∈(if e=c then [BM u i k p (q.map (Ff (NN u) q x d)) s]else []):=z;by_cases H:e=c
    ·rw [JB H]at z;cases Jg.1 z;unfold BM;rw [cL G];have V:=Jd G;have W:=su.kQ G (aV (su.smp _ V) _ hr).1 (gh _ hr);exact rb w ok su I G J Z hr (yp (NN u) d W.lk) su.bound (by unfold NN;omega)
    ·rw [Jn H]at z;cases z
end
theorem B3:∀l:List U,(tp l).bvs=l.flatMap λs=>(td s).1++(td s).2.bvs
 | []=>rfl
 | u::l=>by simp only [tp,Lv.bvs,KE,B3 l,JH]
theorem Hp:∀u:U,BV u=u.lT.flatMap BV:=by
 intro u
 induction u with
 | sum p q G z=>simp only [BV,T.lT,KE];rw [<-z]
 | _=>simp [T.lT]
theorem Cw:∀(n:Nat) {u:U},u.size<=n->Uq u->u.Nr->(td u).1++(td u).2.bvs=BV u
 | 0,u,h,_,_=>by cases u<;>simp [T.size]at h
 | n+1,u,h,z,nr=>by
  have G:=λ{p:U} (Z:p.size<=n) (z:Uq p) (nr:p.Nr)=>Cw n Z z nr
  have e:=iT z nr;cases u with
  | nil=>rw [e];rfl
  | snd a b p=>rw [e];have :=G (by simp only [T.size]at h;omega) z.snd nr;simpa [frL,T.ths,tl,Lv.bvs,BV]using this
  | mat a b p=>rw [e];have :=G (by simp only [T.size]at h;omega) z.mat nr.2;simpa [frL,T.ths,tl,Lv.bvs,BV]using this
  | tau p=>rw [e];have :=G (by simp only [T.size]at h;omega) z.tau nr;simpa [frL,T.ths,tl,Lv.bvs,BV]using this
  | rep p=>rw [e];have :=G (by simp only [T.size]at h;omega) z.rep nr.2;simpa [frL,T.ths,tl,Lv.bvs,BV]using this
  | rcv a x p=>rw [e];have :=G (by simp only [T.size]at h;omega) z.rcv nr;simp only [frL,T.ths,tl,Lv.bvs,BV,KU,JD,JW,this];rfl
  | res x p=>
   have :=G (by simp only [T.size]at h;omega) z.res nr.2;rw [iT z.res nr.2]at this;rw [e];simp only [frL,T.ths,BV,JZ];rw [<-this]
  | par p q=>
   simp only [T.size]at h;have I:=G (p:=p) (by omega) z.fM nr.2.1;have J:=G (p:=q) (by omega) z.fp nr.2.2;rw [iT z.fM nr.2.1,iu nr.1.1,mU nr.1.1]at I;have h0:q.frL=[]:=by
    rcases nr.1.2 with h | h
    ·exact iu h
    ·cases q<;>first | rfl | (cases h;done)
   rw [iT z.fp nr.2.2,h0]at J;simp only [JW]at I J;rw [e];simp only [frL,T.ths,BV,JW];rw [show p::q.ths=[p]++q.ths from rfl,gP,Lv.dh,I,J]
  | sum p q=>
   simp only [T.size]at h;rw [e];simp only [frL,T.ths,tl,Lv.bvs,JW,JD];rw [ec z.dU nr.2.1 nr.1.1,ec z.dJ nr.2.2 nr.1.2.1,gi nr.1.2.2];rw [B3,Hp (.sum p q)];have key:∀s∈[p]++q.lT,(td s).1++(td s).2.bvs=BV s:=by
    intro s H;rcases Jf.1 H with H | H
    ·cases Jg.1 H;exact G (by omega) z.dU nr.2.1
    ·have:∀q:U,Uq q->q.Nr->∀s∈q.lT,s.size<=q.size/\Uq s/\s.Nr:=by
      intro q
      induction q with
      | sum p q _ G=>
       intro z nr s H;rcases Jm.1 H with rfl | H
       ·exact⟨by simp only [T.size];omega,z.dU,nr.2.1⟩
       ·obtain⟨k1,V,W⟩:=G z.dJ nr.2.2 s H;exact⟨by simp only [T.size];omega,V,W⟩
      | _=>intro z nr s H;cases Jg.1 H;exact⟨Jc _,z,nr⟩
     obtain⟨k1,V,W⟩:=this q z.dJ nr.2.2 s H;exact G (by omega) V W
   have fm:∀l:List U,(∀s∈l,(td s).1++(td s).2.bvs=BV s)->(l.flatMap λs=>(td s).1++(td s).2.bvs)=l.flatMap BV:=by
    intro l
    induction l with
    | nil=>intro _;rfl
    | cons s l G=>intro h;rw [KE,KE,h s (by simp),G λx hx=>h x (by simp [hx])]
   exact fm _ key
theorem xz:∀{K:List U},(∀t∈K,t.th=true/\Uq t/\t.Nr)->joinL (K.map td)=([],tl K)
 | [],_=>rfl
 | t::K,h=>by
  obtain⟨z,G,H⟩:=h t (by simp);simp only [JA,joinL];rw [xz (K:=K) λx I=>h x (by simp [I]),iT G H,iu z,mU z,show t::K=[t]++K from rfl,gP];rfl
theorem AY (O:List Nat){K:List U}(G:∀t∈K,t.th=true/\Uq t/\t.Nr){zs:List ((List Nat×Lv)×U)}(J:∀z∈zs,Pc z.1 z.2):Lv.tidy (O++(joinL (zs.map (·.1))).1) ((tl K).app (joinL (zs.map (·.1))).2)=td (resL O (parL (K++zs.map (·.2)))):=by
 have h:=xA (own:=O) (Pc.join (zs:=K.map (λt=>(td t,t))++zs) λz H=>by
  rcases Jf.1 H with h | h
  ·obtain⟨t,I,rfl⟩:=JL.1 h;exact Pc.nr (G t I).2.1 (G t I).2.2
  ·exact J z h)
 rw [JY,JY,KL,KL,pA]at h;have V:K.map ((λz:(List Nat×Lv)×U=>z.1)∘λt=>(td t,t))=K.map td:=rfl;have W:K.map ((λz:(List Nat×Lv)×U=>z.2)∘λt=>(td t,t))=K:=List.map_id K;rw [V,W,xz G]at h;exact h
theorem Ck:∀{l:List U},(∀t∈l,t.th=true)->(tl l).bk=l.map λt=>tl [t]
 | [],_=>rfl
 | t::l,h=>by
  have z:=h t (by simp);have G:=Ck (l:=l) λx H=>h x (by simp [H])
  cases t<;>first | (cases z;done) | simp only [tl,Lv.bk,G,JA]
theorem vB {X Y:Type}(f:X->Y)(P:Nat->Bool):∀(l:List X) (k:Nat),jZ P (l.map f) k=(jZ P l k).map f
 | [],k=>by rw [KV,jt,jt];rfl
 | x::l,k=>by
  rw [JA,cd,cd,vB f P l (k+1)];split<;>simp
theorem AD:∀l:List U,elsL (l.map λt=>tl [t])=tl l
 | []=>rfl
 | t::l=>by rw [JA,elsL,AD l,<-gP];rfl
theorem GH {l:List U}(h:∀t∈l,t.th=true)(P:Nat->Bool):elsL (jZ P (tl l).bk 0)=tl (jZ P l 0):=by
 rw [Ck h,vB,AD]
theorem EH {O:List Nat}{ts G:List U}(h:ts.Perm G)(n:Nu (resL O (parL ts))):Nu (resL O (parL G)):=by
 have H:(BV (resL O (parL ts))).Perm (BV (resL O (parL G))):=by
  rw [gg,gg,gb,gb];exact(J7 _).append (h.flatMap_right _)
 have J:∀z,(resL O (parL G)).Fr z->(resL O (parL ts)).Fr z:=λz I=>by
  obtain⟨V,W⟩:=eZ.1 I;obtain⟨t,Z,I⟩:=lO.1 W;exact eZ.2 ⟨V,lO.2 ⟨t,h.symm.subset Z,I⟩⟩
 have α:∀z,(resL O (parL G)).Us z->(resL O (parL ts)).Us z:=λz I=>by
  obtain⟨V,W⟩:=jK.1 I;obtain⟨t,Z,I⟩:=qT.1 W;exact jK.2 ⟨V,qT.2 ⟨t,h.symm.subset Z,I⟩⟩
 exact⟨⟨H.nodup_iff.1 n.uq.nd,λx hx hf=>n.uq.nf x (H.symm.subset hx) (J x hf)⟩,λy hy=>n.fr y (α y hy),λx hx=>n.bv x (H.symm.subset hx)⟩
theorem BI {ths:List U}{i k:Nat}(G:i< ths.length)(H:k< ths.length)(z:i≠k)(p q:U):(wo ths i i++[p,q]).Perm (bD ths i k p q true ths[k]):=by
 unfold bD;have h:=E' ths i k G H z;refine(h.append (J7 _)).trans ?_;rw [JB rfl,JH,JH];exact(J7 _).append K1
structure qf (b b2 n0 c:Nat)(w0 w':World)(acc:List U)(M:Nat->Prop):Prop where
 km:Km b w0 w'
 rs:G5 w0.heap.size w' b2 (outs acc) (!jc acc) M
 mc:∃n,Mk w' b n/\n0<=n/\n<=n0+c
 hb:b< w0.heap.size
section
variable {b b2 n0 c:Nat} {w0 w w':World} {acc:List U} {M:Nat->Prop}
theorem qf.nb (h:qf b b2 n0 c w0 w acc M):¬M b:=λz=>by have :=(h.rs.mr b z).1;have :=h.hb;omega
theorem qf.ex (h:qf b b2 n0 c w0 w acc M)(x:Ex w w'):qf b b2 n0 c w0 w' acc M:=by
 obtain⟨n,z,G⟩:=h.mc;exact⟨h.km.out (Kp.ah x λ _=>False) (λ _ _ h=>h) h.hb,h.rs.kp (Kp.ah x λ _=>False) λ _ _ h=>h,⟨n,z.ex x,G⟩,h.hb⟩
theorem HP (h:qf b b2 n0 c w0 w acc M)(hl:acc.length<=1000000000){Z vo vm:Value}{v:U}(hv:∀{R:ay->Bool->World->Prop},(∀w',Ex w w'->(∀s,jY v=some s->R s true w')/\(jY v=none->R [] false w'))->Calls Tryz.prog 176 #[ptr b,Z,vo,vm] w (an [.s,.b] R))
  {S J:World->Prop} (hS:∀w',Kp w w' M->S w') (hJ:∀z H,qf b b2 n0 c w0 z (acc++[v]) H->Kp w z M->(∀g,H g->M g\/w.heap.size<=g)->J z):
  Calls Tryz.prog 176 #[ptr b,Z,vo,vm] w (an [.s,.b] fun(s:ay) (q:Bool) (w2:World)=>S w2/\Calls Tryz.prog 99 #[ptr b2,.string (ab s),.bool q] w2 (an [] fun(z:World)=>S z/\J z)):=by
 have fin:∀(s:ay) (q:Bool) (w2:World),Ex w w2->s=(jY v).getD []->q=(jY v).isSome->S w2/\Calls Tryz.prog 99 #[ptr b2,.string (ab s),.bool q] w2 (an [] fun(z:World)=>S z/\J z):=by
  intro s q w2 x I hq;have G:=h.ex x;have α:(outs acc).length=acc.length:=by unfold outs;simp
  refine⟨hS w2 (Kp.ah x _),Gx G.rs (by omega) λz H V r3 W=>?_⟩;have k:=Kp.trans (Kp.ah x M) V λ _ _ h=>h
  obtain⟨n,m1,m2,m3⟩:=G.mc;refine⟨hS z k,hJ z H ⟨G.km.out V (λg hg hM=>by have :=(G.rs.mr g hM).1;omega) h.hb,?_,⟨n,m1.kp V G.nb,m2,m3⟩,h.hb⟩ k λg hg=>(W g hg).imp id λh=>J0 x.size h⟩;have e1:outs (acc++[v])=outs acc++[s]:=by rw [xy,I];rfl
  have e2:(!jc (acc++[v]))=((!jc acc)|| !q):=by
   rw [ue,hq,Bool.not_and];simp [jc]
  rw [e1,e2];exact r3
 refine hv λw2 x=>⟨λs I=>fin s true w2 x (by rw [I];rfl) (by rw [I];rfl),λhn=>fin [] false w2 x (by rw [hn];rfl) (by rw [hn];rfl)⟩
end
theorem zR {t:P}{u:U}(su:SU t u){D:Nat->Prop}{w:World}{v:Value}(h:aB D w (td u) v):∃b vo vt ts,v=ptr b/\D b/\b< w.heap.size/\w.cell? ⟨b,0,none⟩=some vo/\w.cell? ⟨b,1,none⟩=some vt/\dW D w vo (u.frL.map iv)/\dW D w vt ts/\ts.length=u.ths.length/\∀i (h:i< u.ths.length) (h':i< ts.length),af D w (tl [u.ths[i]]) [ts[i]]:=by
 rw [iT su.nu.uq su.nr]at h;obtain⟨b,vo,vt,ts,z,G,H,h4,h5,I,J,V⟩:=h;obtain⟨W,Z⟩:=zH (λq hq=>(su.nr.ths q hq).1) V;exact⟨b,vo,vt,ts,z,G,H,h4,h5,I,J,W,Z⟩
theorem SU.th {t:P}{u:U}(su:SU t u):∀q∈u.ths,q.th=true/\Uq q/\q.Nr:=λq z=>by
 obtain⟨i,G,rfl⟩:=JV.1 z;exact⟨(su.nr.ths _ z).1,su.kQ G (Sub.refl _) (J8 _),(su.nr.ths _ z).2⟩
theorem oG (u:U):(td u).1.length+(td u).2.tot<=4* u.size:=by
 have z:=nT (flat u).1 (flat u).2;have G:=cy u;have e:Lv.tidy (flat u).1 (flat u).2=td u:=rfl;rw [e]at z;omega
theorem jl (f:Nat->Nat):∀l:Lv,(l.map f).tot=l.tot
 | .nil=>rfl
 | .thr k a b o r n=>by simp only [Lv.map,Lv.tot,jl f r,jl f n,Ju]
 | .sum z n=>by simp only [Lv.map,Lv.tot,jl f z,jl f n]
 | .part o q n=>by simp only [Lv.map,Lv.tot,jl f q,jl f n,Ju]
theorem xS {t:P}{u:U}(su:SU t u)(η:u.size<=1000){w:World}{b:Nat}{vl vg vo vm:Value}{gl:List Nat}{mvs:List Value}{zs:List ((List Nat×Lv)×U)}{V:U}(W:w.cell? ⟨b,2,none⟩=some vl)(Z:b< w.heap.size)(hl:aB (λg=>g< w.heap.size) w (td u) vl)(hg:dW (λg=>g< w.heap.size) w vg (gl.map iv))(α:gl.length<=1000)
  (ho:dW (λg=>g< w.heap.size) w vo (u.frL.map iv)) (hm:dW (λg=>g< w.heap.size) w vm mvs) (β:aK (λL v=>aB (λg=>g< w.heap.size) w L v) (zs.map (·.1)) mvs) (γ:mvs.length<=1000) (hz:∀z∈zs,Pc z.1 z.2) (θ:(joinL (zs.map (·.1))).1.length+(joinL (zs.map (·.1))).2.tot<=1000000)
  {P:Nat->Bool} (hP:∀i,P i=decide (i∈gl)) (H:Nu (resL u.frL (parL (jZ P u.ths 0++zs.map (·.2))))) (δ:jY (resL u.frL (parL (jZ P u.ths 0++zs.map (·.2))))=jY V) {R:ay->Bool->World->Prop} (hR:∀w',Ex w w'->(∀s,jY V=some s->R s true w')/\(jY V=none->R [] false w')):
  Calls Tryz.prog 176 #[ptr b,vg,vo,vm] w (an [.s,.b] R):=by
 have I:=iT su.nu.uq su.nr;have J:=su.th;have e:=AY u.frL (K:=jZ P u.ths 0) (λt ht=>J t (qZ ht)) hz;have G:=oG u;rw [I]at hl G;have ε:∀x∈zs.map (·.1),x.2.sh true=true:=λx hx=>by
  obtain⟨z,h1,rfl⟩:=JL.1 hx;exact(hz z h1).sh
 have ζ:(tl u.ths).sh true=true:=by have :=zV u;rw [I]at this;exact this
 simp only at G;refine Ea (res:=(u.frL++(joinL (zs.map (·.1))).1,(tl (jZ P u.ths 0)).app (joinL (zs.map (·.1))).2)) W Z hl hg α ho hm β γ ζ ε (by omega) hP (by rw [GH λt ht=>(J t ht).1]) ?_ ?_ λw' x=>?_
 ·rw [e];exact yn H.uq H.bv
 ·rw [e];exact F6 H
 ·rw [e];have:zk (td (resL u.frL (parL (jZ P u.ths 0++zs.map (·.2)))))=jY V:=δ;rw [this];exact hR w' x
theorem aK.HG {A B:Type}{R:A->B->Prop}:aK R [] []:=⟨rfl,λi a b h=>by simp at h⟩
theorem H6 {w w1:World}{e g:Nat}{x:Value}(G:g=w.heap.size)(hw:w1=w.alloc (.cells #[x] e)):dW (λg=>g< w1.heap.size) w1 (.slice (some ⟨g,0,none⟩) 1 1) [x]:=by
 subst G hw;refine .inr ⟨w.heap.size,0,1,rfl,by rw [size_alloc];omega,by rw [size_alloc];omega,λi y z=>?_⟩;cases i with
 | zero=>simp only [Kc,Kj]at z;subst z;exact aa rfl
 | succ i=>simp at z
theorem IQ {w w1:World}{e g:Nat}{x z:Value}(H:g=w.heap.size)(hw:w1=w.alloc (.cells #[x,z] e)):dW (λg=>g< w1.heap.size) w1 (.slice (some ⟨g,0,none⟩) 2 2) [x,z]:=by
 subst H hw;refine .inr ⟨w.heap.size,0,2,rfl,by rw [size_alloc];omega,by rw [size_alloc];omega,λi y G=>?_⟩
 match i,G with
 | 0,G=>simp only [Kc,Kj]at G;subst G;exact aa rfl
 | 1,G=>simp only [List.getElem?_cons_succ,Kc,Kj]at G;subst G;exact aa rfl
 | i+2,G=>simp at G
theorem Il {D:Nat->Prop}{w w1:World}{v:Value}{l:List Value}(h:dW D w v l)(x:Ex w w1):dW (λg=>g< w1.heap.size) w1 v l:=(h.ex x).sub λg z _=>z
theorem gN:∀u:U,(BV u).length<=u.size
 | .nil=>by simp [BV]
 | .snd a b p=>by have :=gN p;simp only [BV,T.size];omega
 | .mat a b p=>by have :=gN p;simp only [BV,T.size];omega
 | .rcv a b p=>by have :=gN p;simp only [BV,T.size,IW];omega
 | .res b p=>by have :=gN p;simp only [BV,T.size,IW];omega
 | .tau p=>by have :=gN p;simp only [BV,T.size];omega
 | .rep p=>by have :=gN p;simp only [BV,T.size];omega
 | .sum p q=>by have :=gN p;have :=gN q;simp only [BV,T.size,I'];omega
 | .par p q=>by have :=gN p;have :=gN q;simp only [BV,T.size,I'];omega
theorem dX:∀u:U,∀q∈u.ths,q.size<=u.size:=by
 intro u
 induction u with
 | nil=>intro q h;cases h
 | res x p G=>intro q h;have :=G q h;simp only [T.size];omega
 | par p r G z=>
  intro q h;simp only [T.size];rcases Jm.1 h with rfl | h
  ·omega
  ·have :=z q h;omega
 | _=>intro q h;cases Jg.1 h;exact Jc _
section
variable {t:P} {u:U} {b b2 n0 c:Nat} {w w1:World} {acc:List U} {M D:Nat->Prop}
theorem Hg (ok:mi t)(su:SU t u)(hsz:u.size<=60)(h:qf b b2 n0 c w w1 acc M){bl:Nat}(hcl:w1.cell? ⟨b,2,none⟩=some (ptr bl))(hl:aB D w1 (td u) (ptr bl))(hD:∀g,D g->g≠b/\g< w.heap.size){i:Nat}{p:U}(hi:i< u.ths.length)(ho:Off.tau p∈offs u.ths[i]){Z:Nat}{vr:Value}(c3:w1.cell? ⟨Z,3,none⟩=some vr)(hb40:Z< w1.heap.size)(hMb:¬M Z)(κ:aB D w1 (td p) vr)
  (hacc:acc.length<=1000000000) {J:World->Prop} (hJ:∀w3 M',qf b b2 n0 c w w3 (acc++[Hx u i p]) M'->Kp w1 w3 M->(∀g,M' g->M g\/w1.heap.size<=g)->J w3):
  ∃G:World->Prop,∀H:World,H=World.drew w1->G H/\∃(b47 o48:Nat),ptr b=Value.pointer (some ⟨b47,o48,none⟩)/\∃v49:Value,(∀w',G w'->World.cell? w' ⟨b47,(o48+2),none⟩=some v49)/\∃(b50 o51:Nat),v49=Value.pointer (some ⟨b50,o51,none⟩)/\∃μ:Value,(∀w',G w'->World.cell? w' ⟨b50,(o51+0),none⟩=some μ)/\∃v53:Value,(∀w',G w'->World.cell? w' ⟨Z,3,none⟩=some v53)/\(∀(ν:Nat) (I:World),ν=Array.size (World.heap H)->I=World.alloc H (Obj.cells #[(Value.int IntKind.i64 (i:Int))] 3)->G I/\oneV v53=true/\∀(ξ:Nat) (α:World),ξ=Array.size (World.heap I)->α=World.alloc I (Obj.cells #[v53] 146)->G α/\Calls Tryz.prog 176 #[ptr b,(Value.slice (some ⟨ν,0,none⟩) 1 1),μ,(Value.slice (some ⟨ξ,0,none⟩) 1 1)] α (an [.s,.b] fun(ο:ay) (ς:Bool) (γ:World)=>G γ/\Calls Tryz.prog 99 #[(Value.pointer (some ⟨b2,0,none⟩)),(Value.string (ab ο)),(Value.bool ς)] γ (an [] fun(δ:World)=>G δ/\J δ)))/\
   (oneV v53=true/\∀(υ:Nat) (V:World),υ=Array.size (World.heap H)->V=World.alloc H (Obj.cells #[v53] 146)->G V/\∀(φ:Nat) (β:World),φ=Array.size (World.heap V)->β=World.alloc V (Obj.cells #[(Value.int IntKind.i64 (i:Int))] 3)->G β/\Calls Tryz.prog 176 #[ptr b,(Value.slice (some ⟨φ,0,none⟩) 1 1),μ,(Value.slice (some ⟨υ,0,none⟩) 1 1)] β (an [.s,.b] fun(s66:ay) (q67:Bool) (w68:World)=>G w68/\Calls Tryz.prog 99 #[(Value.pointer (some ⟨b2,0,none⟩)),(Value.string (ab s66)),(Value.bool q67)] w68 (an [] fun(w69:World)=>G w69/\J w69))):=by
 have hb:=h.hb;have s0:=h.km.size;have hDM:∀g,D g->¬M g:=λg hg hM=>by have :=(hD g hg).2;have :=(h.rs.mr g hM).1;omega
 obtain⟨bl',vo,vt,ts,e1,k2,k3,k4,k5,k6,k7,k8,k9⟩:=zR su hl;cases e1;have hNu:=(DN ok su hi ho).1;obtain⟨sU,_⟩:=aV (su.smp _ (Jd hi)) _ ho;have uqp:Uq p:=(su.kQ hi sU (gh _ ho)).tau;have nrp:p.Nr:=sU.nr (su.nrs _ (Jd hi));have hwo:jZ (λn=>n==i||n==i) u.ths 0=wo u.ths i i:=(zg _ _ _).symm;have htp:=oG p;have hps:p.size<=60:=by have h1:=sU.size;have h2:=dX u _ (Jd hi);simp only [Off.tm,T.size]at h1;omega
 have go:∀(wc:World) (vg vm:Value),Ex w1 wc->dW (λg=>g< wc.heap.size) wc vg [iv i]->dW (λg=>g< wc.heap.size) wc vm [vr]->Calls Tryz.prog 176 #[ptr b,vg,vo,vm] wc (an [.s,.b] fun(ο:ay) (ς:Bool) (γ:World)=>Kp w1 γ M/\Calls Tryz.prog 99 #[(Value.pointer (some ⟨b2,0,none⟩)),(Value.string (ab ο)),(Value.bool ς)] γ (an [] fun(δ:World)=>Kp w1 δ M/\J δ)):=by
  intro wc vg vm xc hg hm;have sc:=xc.size;have kc:Kp w1 wc M:=Kp.ah xc _;refine HP (h.ex xc) hacc (λhR=>?_) (λw' k=>Kp.trans kc k λ _ _ h=>h) λw3 M' r3 k3 hM'=>hJ w3 M' r3 (Kp.trans kc k3 λ _ _ h=>h) λg hg=>(hM' g hg).imp id λh=>by omega
  refine xS su (by omega) (zs:=[(td p,p)]) (gl:=[i]) (P:=λn=>n==i||n==i) (mvs:=[vr]) (by rw [xc.cell (show b< _ by omega)];exact hcl) (by omega) (aB.sub (aB.ex hl xc) λg hg _=>hg) hg (by simp) (Il k6 xc) hm (aK.cons (aB.sub (aB.ex κ xc) λg hg _=>hg) aK.HG) (by simp) (λz hz=>by cases Jg.1 hz;exact Pc.nr uqp nrp) ?_ (λj=>?_) ?_ ?_ hR
  ·simp only [JA,KV,pO];omega
  ·simp [jI]
  ·rw [hwo];exact hNu
  ·rw [hwo];rfl
 have c3':∀w',Kp w1 w' M->w'.cell? ⟨Z,3,none⟩=some vr:=λw' k=>by rw [IX (w:=w1) (k.block Z hb40 hMb)];exact c3
 refine⟨λw'=>Kp w1 w' M,λH ε=>⟨ε▸Kp.ah (Ex.drew w1) _,b,0,rfl,ptr bl,λw' k=>by rw [IX (w:=w1) (k.block b (by omega) h.nb)];exact hcl,bl,0,rfl,vo,λw' k=>by rw [IX (w:=w1) (k.block bl k3 (hDM bl k2))];exact k4,vr,c3',λν I hb54 ζ=>?_,κ.one,λυ V hb62 η=>?_⟩⟩
 ·have W:Ex w1 H:=ε▸Ex.drew w1;have χ:Ex H I:=ζ▸Ex.alloc _ _;refine⟨Kp.ah (Ex.trans W χ) _,κ.one,λξ α hb56 θ=>?_⟩;have ψ:Ex I α:=θ▸Ex.alloc _ _;exact⟨Kp.ah (Ex.trans (Ex.trans W χ) ψ) _,go α _ _ (Ex.trans (Ex.trans W χ) ψ) (Il (H6 hb54 ζ) ψ) (H6 hb56 θ)⟩
 ·have W:Ex w1 H:=ε▸Ex.drew w1;have ω:Ex H V:=η▸Ex.alloc _ _;refine⟨Kp.ah (Ex.trans W ω) _,λφ β hb64 ι=>?_⟩;have x65:Ex V β:=ι▸Ex.alloc _ _;exact⟨Kp.ah (Ex.trans (Ex.trans W ω) x65) _,go β _ _ (Ex.trans (Ex.trans W ω) x65) (H6 hb64 ι) (Il (H6 hb62 η) x65)⟩
theorem mi.bound (ok:mi t)(su:SU t (num t e0 0).1):∀z,(z∈(num t e0 0).1.frL\/z∈(num t e0 0).1.ths.flatMap BV\/∃q∈(num t e0 0).1.ths,q.Fr z)->z<=(num t e0 0).2+100:=by
 have H:=su.nr.shape;have G:BV (num t e0 0).1=(num t e0 0).1.frL++(num t e0 0).1.ths.flatMap BV:=by
  have:BV (num t e0 0).1=BV (resL (num t e0 0).1.frL (parL (num t e0 0).1.ths)):=by rw [<-H]
  rw [this,gg,gb]
 have key:∀z∈BV (num t e0 0).1,z<=(num t e0 0).2+100:=λz I=>((eH t e0 0).2 z I).2
 intro z I;rcases I with h | h | h
 ·exact key z (by rw [G];exact JF _ h)
 ·exact key z (by rw [G];exact Jx _ h)
 ·rcases su.free z h with h | h
  ·exact key z (by rw [G];exact JF _ h)
  ·omega
theorem FK (hu:u=(num t e0 0).1)(hn0:n0=(num t e0 0).2)(ok:mi t)(su:SU t u)(hsz:u.size<=60)(h:qf b b2 n0 c w w1 acc M){bl:Nat}(hcl:w1.cell? ⟨b,2,none⟩=some (ptr bl))(hl:aB D w1 (td u) (ptr bl))(hD:∀g,D g->g≠b/\g< w.heap.size){i k:Nat}{e d x:Nat}{p q:U}{s:Bool}(hi:i< u.ths.length)(hk:k< u.ths.length)(hik:i≠k)(ho:Off.snd e d p∈offs u.ths[i])(hr:Off.rcv e x q s∈offs u.ths[k])
  {ι H:Nat} {vr vq:Value} (c403:w1.cell? ⟨ι,3,none⟩=some vr) (c402:w1.cell? ⟨ι,2,none⟩=some (iv d)) (χ:ι< w1.heap.size) (hMb:¬M ι) (hbb:ι≠b) (hvr:aB D w1 (td p) vr) (c108:∀j,j< 5->w1.cell? ⟨H,j,none⟩=(cO 63 e x vq s)[j]?) (hb108:H< w1.heap.size) (hMb2:¬M H) (hbb2:H≠b) (hvq:aB D w1 (td q) vq)
  {gone:Value} (hgone:dW (λg=>g< w1.heap.size/\¬(g=b\/M g)) w1 gone ((if s then [i]else [i,k]).map iv)) (hacc:acc.length<=1000000000) (hc:n0+c<=4294966000) {J:World->Prop}
  (hJ:∀w3 M',qf b b2 n0 (c+60) w w3 (acc++[BM u i k p (q.map (Ff (NN u) q x d)) s]) M'->Kp w1 w3 (λg=>g=b\/M g)->(∀g,M' g->M g\/w1.heap.size<=g)->J w3):
  ∃I:World->Prop,∀α:World,α=World.drew w1->I α/\∃(ψ ω:Nat),ptr b=Value.pointer (some ⟨ψ,ω,none⟩)/\∃v127:Value,(∀w',I w'->World.cell? w' ⟨ψ,(ω+2),none⟩=some v127)/\∃(b128 o129:Nat),v127=Value.pointer (some ⟨b128,o129,none⟩)/\∃v130:Value,(∀w',I w'->World.cell? w' ⟨b128,(o129+0),none⟩=some v130)/\∃v131:Value,(∀w',I w'->World.cell? w' ⟨ι,3,none⟩=some v131)/\∃c132:UInt8,∃n133:Int,∃n134:Int,∃v135:Value,∃q136:Bool,(∀w',I w'->World.cell? w' ⟨H,0,none⟩=some (Value.int IntKind.u8 (UInt8.toNat c132))/\World.cell? w' ⟨H,1,none⟩=some (Value.int IntKind.i64 n133)/\World.cell? w' ⟨H,2,none⟩=some (Value.int IntKind.i64 n134)/\World.cell? w' ⟨H,3,none⟩=some v135/\World.cell? w' ⟨H,4,none⟩=some (Value.bool q136)/\True)/\∃n137:Int,(∀w',I w'->World.cell? w' ⟨ι,2,none⟩=some (Value.int IntKind.i64 n137))/\
   Calls Tryz.prog 177 #[ptr b,(Value.agg #[(Value.int IntKind.u8 (UInt8.toNat c132)),(Value.int IntKind.i64 n133),(Value.int IntKind.i64 n134),v135,(Value.bool q136)]),(Value.int IntKind.i64 n137)] α (an [.v] fun(v138:Value) (W:World)=>I W/\oneV v131=true/\oneV v138=true/\∀(η:Nat) (G:World),η=Array.size (World.heap W)->G=World.alloc W (Obj.cells #[v131,v138] 146)->I G/\Calls Tryz.prog 176 #[ptr b,gone,v130,(Value.slice (some ⟨η,0,none⟩) 2 2)] G (an [.s,.b] fun(ν:ay) (ξ:Bool) (β:World)=>I β/\Calls Tryz.prog 99 #[(Value.pointer (some ⟨b2,0,none⟩)),(Value.string (ab ν)),(Value.bool ξ)] β (an [] fun(γ:World)=>I γ/\J γ))):=by
 have hb:=h.hb;have s0:=h.km.size;have φ:∀g,D g->¬M g:=λg Z hM=>by have :=(hD g Z).2;have :=(h.rs.mr g hM).1;omega
 obtain⟨bl',vo,vt,ts,e1,k2,k3,k4,k5,k6,k7,k8,k9⟩:=zR su hl;cases e1;obtain⟨sU,_⟩:=aV (su.smp _ (Jd hi)) _ ho;have uqp:Uq p:=(su.kQ hi sU (gh _ ho)).snd;have nrp:p.Nr:=sU.nr (su.nrs _ (Jd hi));obtain⟨rU,_⟩:=aV (su.smp _ (Jd hk)) _ hr;have cU:=gh _ hr;have uqr:=su.kQ hk rU cU;have uqq:Uq q:=uqr.rcv;have nrq:q.Nr:=rU.nr (su.nrs _ (Jd hk));have hps:p.size<=60:=by have h1:=sU.size;have h2:=dX u _ (Jd hi);simp only [Off.tm,T.size]at h1;omega
 have hqs:q.size<=60:=by have h1:=rU.size;have h2:=dX u _ (Jd hk);simp only [Off.tm,T.size]at h1;omega
 have htp:=oG p;have htq:=oG q;have hbvq:=Cw _ (Jc _) uqq nrq;have hbvl:=gN q;have hql:(td q).1.length+(td q).2.bvs.length=(BV q).length:=by rw [<-hbvq,I']
 have hq26:∀z∈BV q,26<=z:=λz hz=>su.ge z (Jx _ (JR.2 ⟨_,Jd hk,cU.subset (Jj _ hz)⟩))
 have hMb':∀g,g< w.heap.size->g≠b->¬(g=b\/M g):=λg h1 h2 e=>e.elim h2 λhM=>by have :=(h.rs.mr g hM).1;omega
 have st:∀{w':World},Kp w1 w' (λg=>g=b\/M g)->∀{g:Nat},g< w1.heap.size->g≠b->¬M g->∀j,w'.cell? ⟨g,j,none⟩=w1.cell? ⟨g,j,none⟩:=λk g h1 h2 h3 j=>IX (w:=w1) (k.block g h1 λe=>e.elim h2 h3)
 refine⟨λw'=>Kp w1 w' (λg=>g=b\/M g)/\w'.cell? ⟨b,2,none⟩=some (ptr bl),λα hw124=>?_⟩;have θ:Ex w1 α:=hw124▸Ex.drew w1;have hbl:b< w1.heap.size:=by omega
 have S124:Kp w1 α (λg=>g=b\/M g)/\α.cell? ⟨b,2,none⟩=some (ptr bl):=⟨Kp.ah θ _,by rw [θ.cell (show b< _ from hbl)];exact hcl⟩
 refine⟨S124,b,0,rfl,ptr bl,λw' k=>k.2,bl,0,rfl,vo,λw' k=>by rw [st k.1 k3 (hD _ k2).1 (φ _ k2)];exact k4,vr,λw' k=>by rw [st k.1 χ hbb hMb];exact c403,63,e,x,vq,s,λw' k=>?_,d,λw' k=>by rw [st k.1 χ hbb hMb];exact c402,?_⟩
 ·have hc:∀j,j< 5->w'.cell? ⟨H,j,none⟩=(cO 63 e x vq s)[j]?:=λj hj=>by rw [st k.1 hb108 hbb2 hMb2];exact c108 j hj
  exact⟨hc 0 (by omega),hc 1 (by omega),hc 2 (by omega),hc 3 (by omega),hc 4 (by omega),trivial⟩
 have μ:=h.ex θ;obtain⟨n,mn,hn1,hn2⟩:=μ.mc;refine Gw mn (aB.ex hvq θ) (λg Z=>(hD g Z).1) (zV q) (yn uqq hq26) (by omega) (by omega) λv138 W F' n' ζ mk139 V l139=>?_
 have ο:Kp w1 W (λg=>g=b\/M g):=Kp.trans (Kp.ah θ _) (Kp.mono (λ _ e=> .inl e) ζ.kp) λ _ _ h=>h
 have c139:W.cell? ⟨b,2,none⟩=some (ptr bl):=by rw [ζ.ce 2 (by omega)];exact S124.2
 refine⟨⟨ο,c139⟩,hvr.one,l139.one,λη G hb140 κ=>?_⟩;have δ:Ex W G:=κ▸Ex.alloc _ _;have s141:G.heap.size=W.heap.size+1:=by rw [κ,size_alloc]
 have s139:=ο.size;have ε:Kp w1 G (λg=>g=b\/M g):=Kp.trans ο (Kp.ah δ λ _=>False) λ _ _ h=>h.elim
 have ς:G.cell? ⟨b,2,none⟩=some (ptr bl):=by rw [δ.cell (show b< _ by omega)];exact c139
 refine⟨⟨ε,ς⟩,?_⟩;have rl:=V.len;rw [I']at rl;have r141:qf b b2 n0 (c+60) w G acc M:=by
  have km:Km b w W:=Km.trans μ.km ζ;exact⟨km.out (Kp.ah δ λ _=>False) (λ _ _ h=>h) hb,(μ.rs.kp ζ.kp λg hM e=>μ.nb (e▸hM)).kp (Kp.ah δ λ _=>False) λ _ _ h=>h,⟨n',mk139.ex δ,by have :=V.le;omega,by omega⟩,hb⟩
 have hF:D1 (n+100) q x d F':=by
  rw [hbvq]at V;refine⟨?_,λz h1 h2=>?_,λz hz=>(V.rng z hz).1,λz hz y hy e=>V.inj z hz y hy e⟩
  ·rw [V.out x uqr.lk];simp [aE]
  ·rw [V.out z h2];simp [aE,h1]
 have hNn:∀z,(z∈u.frL\/z∈u.ths.flatMap BV\/∃q∈u.ths,q.Fr z)->z<=n+100:=λz hz=>by
  subst hu;have :=mi.bound ok su z hz;omega
 have hcok:=rb w1 ok su hi hk hik ho hr hF hNn (by omega);have υ:=AS w1 ok su hi hk hik ho hr hF hNn (by omega) (yp (NN u) d uqr.lk) su.bound (by unfold NN;omega);have ezs:([((td p),p),(Lv.dV F' (td q),q.map F')]:List ((List Nat×Lv)×U)).map (·.2)=[p,q.map F']:=rfl;have s1:=h.km.size;have hm2:dW (λg=>g< G.heap.size) G (.slice (some ⟨η,0,none⟩) 2 2) [vr,v138]:=IQ hb140 κ;have hlS:aB (λg=>g< G.heap.size) G (td u) (ptr bl):=aB.sub (aB.kp hl ε λg Z e=>e.elim (hD g Z).1 (φ g Z)) λg Z _=>Z
 have hvoS:dW (λg=>g< G.heap.size) G vo (u.frL.map iv):=(k6.kp ε λg Z e=>e.elim (hD g Z).1 (φ g Z)).sub λg Z _=>Z
 have hvrS:aB (λg=>g< G.heap.size) G (td p) vr:=aB.sub (aB.kp hvr ε λg Z e=>e.elim (hD g Z).1 (φ g Z)) λg Z _=>Z
 have hv138:aB (λg=>g< G.heap.size) G (Lv.dV F' (td q)) v138:=aB.sub (aB.ex l139 δ) λg Z _=>Z
 have hgS:dW (λg=>g< G.heap.size) G gone ((if s then [i]else [i,k]).map iv):=(hgone.kp ε λg Z=>Z.2).sub λg Z _=>Z
 have hlen:(joinL ([((td p),p),(Lv.dV F' (td q),q.map F')].map (·.1):List (List Nat×Lv))).1.length+(joinL ([((td p),p),(Lv.dV F' (td q),q.map F')].map (·.1):List (List Nat×Lv))).2.tot<=1000000:=by
  simp only [JA,KV,joinL,I',Ju,Jh,Lv.bT,jl,Lv.tot];omega
 have hz:∀z∈([((td p),p),(Lv.dV F' (td q),q.map F')]:List ((List Nat×Lv)×U)),Pc z.1 z.2:=λz hz=>by
  rcases Jm.1 hz with rfl | hz
  ·exact Pc.nr uqp nrp
  ·cases Jg.1 hz;exact Pc.map F' uqq nrq
 have hms:aK (λL v=>aB (λg=>g< G.heap.size) G L v) ([((td p),p),(Lv.dV F' (td q),q.map F')].map (·.1):List (List Nat×Lv)) [vr,v138]:=aK.cons hvrS (aK.cons hv138 aK.HG);have kJ:∀w',Kp G w' M->Kp w1 w' (λg=>g=b\/M g)/\w'.cell? ⟨b,2,none⟩=some (ptr bl):=λw' k=>⟨Kp.trans ε k λ _ _ h=> .inr h,by rw [IX (w:=G) (k.block b (by omega) h.nb)];exact ς⟩
 have aft:∀{P:Nat->Bool} {gl:List Nat},dW (λg=>g< G.heap.size) G gone (gl.map iv)->gl.length<=2->(∀j,P j=decide (j∈gl))->Nu (resL u.frL (parL (jZ P u.ths 0++[p,q.map F'])))->jY (resL u.frL (parL (jZ P u.ths 0++[p,q.map F'])))=jY (BM u i k p (q.map (Ff (NN u) q x d)) s)->
   Calls Tryz.prog 176 #[ptr b,gone,vo,(Value.slice (some ⟨η,0,none⟩) 2 2)] G (an [.s,.b] fun(ν:ay) (ξ:Bool) (β:World)=>(Kp w1 β (λg=>g=b\/M g)/\β.cell? ⟨b,2,none⟩=some (ptr bl))/\Calls Tryz.prog 99 #[(Value.pointer (some ⟨b2,0,none⟩)),(Value.string (ab ν)),(Value.bool ξ)] β (an [] fun(γ:World)=>(Kp w1 γ (λg=>g=b\/M g)/\γ.cell? ⟨b,2,none⟩=some (ptr bl))/\J γ)):=by
  intro P gl Z hgl hP hv hn;refine HP r141 hacc (λhR=>xS su (by omega) (zs:=[((td p),p),(Lv.dV F' (td q),q.map F')]) (gl:=gl) (P:=P) (mvs:=[vr,v138]) ς (by omega) hlS Z (by omega) hvoS hm2 hms (by simp) hz hlen hP hv hn hR) kJ λw3 M' r3 k3 hM'=>hJ w3 M' r3 (kJ w3 k3).1 λg Z=>(hM' g Z).imp id λh=>by omega
 have egd:u.ths.getD k .nil=u.ths[k]:=cL hk;cases s
 ·have e1:jZ (λn=>n==i||n==k) u.ths 0++[p,q.map F']=bD u.ths i k p (q.map F') false u.ths[k]:=by
   unfold bD;rw [zg];simp
  refine aft (P:=λn=>n==i||n==k) (gl:=[i,k]) hgS (by simp) (λj=>?_) (by rw [e1];exact hcok.1) (by rw [e1];unfold BM;rw [egd];exact υ);simp [jI,Bool.decide_or]
 ·have e1:jZ (λn=>n==i||n==i) u.ths 0++[p,q.map F']=wo u.ths i i++[p,q.map F']:=by rw [zg]
  have hp:=BI hi hk hik p (q.map F');refine aft (P:=λn=>n==i||n==i) (gl:=[i]) hgS (by simp) (λj=>?_) (by rw [e1];exact EH hp.symm hcok.1) (by rw [e1];unfold BM;rw [egd];exact(DM hp).trans υ);simp [jI]
end
end Go.Proofs.YtdecokaadekjnaaGreat
