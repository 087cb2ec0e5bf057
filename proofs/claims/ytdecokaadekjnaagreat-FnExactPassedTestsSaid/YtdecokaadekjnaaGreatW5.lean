/- Part 5 of a proof of what the last text states; no condition. -/
import Derived.Test.YtdecokaadekjnaaGreatW4
namespace Go.Proofs.YtdecokaadekjnaaGreat
open Go Go.RowKit T
theorem Ds:∀l:List U,(tp l).bvs=l.flatMap λs=>(td s).1++(td s).2.bvs
 | []=>rfl
 | u::l=>by simp only [tp,Lv.bvs,Lb,Ds l,Kg]
theorem Hz:∀u:U,BV u=u.mi.flatMap BV:=by
 intro u
 induction u with
 | sum p q G z=>simp only [BV,T.mi,Lb];rw [<-z]
 | _=>simp [T.mi]
theorem CX:∀(n:Nat) {u:U},u.size<=n->Uq u->u.Nr->(td u).1++(td u).2.bvs=BV u
 | 0,u,h,_,_=>by cases u<;>simp [T.size]at h
 | n+1,u,h,z,nr=>by
  have G:=λ{p:U} (Z:p.size<=n) (z:Uq p) (nr:p.Nr)=>CX n Z z nr
  have e:=jg z nr;cases u with
  | nil=>rw [e];rfl
  | snd a b p=>rw [e];have :=G (by simp only [T.size]at h;omega) z.snd nr;simpa [frL,T.ths,tl,Lv.bvs,BV]using this
  | mat a b p=>rw [e];have :=G (by simp only [T.size]at h;omega) z.mat nr.2;simpa [frL,T.ths,tl,Lv.bvs,BV]using this
  | tau p=>rw [e];have :=G (by simp only [T.size]at h;omega) z.tau nr;simpa [frL,T.ths,tl,Lv.bvs,BV]using this
  | rep p=>rw [e];have :=G (by simp only [T.size]at h;omega) z.rep nr.2;simpa [frL,T.ths,tl,Lv.bvs,BV]using this
  | rcv a x p=>rw [e];have :=G (by simp only [T.size]at h;omega) z.rcv nr;simp only [frL,T.ths,tl,Lv.bvs,BV,Ls,Kb,KB,this];rfl
  | res x p=>
   have :=G (by simp only [T.size]at h;omega) z.res nr.2;rw [jg z.res nr.2]at this;rw [e];simp only [frL,T.ths,BV,KC];rw [<-this]
  | par p q=>
   simp only [T.size]at h;have I:=G (p:=p) (by omega) z.fQ nr.2.1;have J:=G (p:=q) (by omega) z.fk nr.2.2;rw [jg z.fQ nr.2.1,il nr.1.1,nh nr.1.1]at I;have h0:q.frL=[]:=by
    rcases nr.1.2 with h | h
    ·exact il h
    ·cases q<;>first | rfl | (cases h;done)
   rw [jg z.fk nr.2.2,h0]at J;simp only [KB]at I J;rw [e];simp only [frL,T.ths,BV,KB];rw [show p::q.ths=[p]++q.ths from rfl,gL,Lv.dj,I,J]
  | sum p q=>
   simp only [T.size]at h;rw [e];simp only [frL,T.ths,tl,Lv.bvs,KB,Kb];rw [en z.dX nr.2.1 nr.1.1,en z.dJ nr.2.2 nr.1.2.1,fU nr.1.2.2];rw [Ds,Hz (.sum p q)];have key:∀s∈[p]++q.mi,(td s).1++(td s).2.bvs=BV s:=by
    intro s H;rcases JN.1 H with H | H
    ·cases JO.1 H;exact G (by omega) z.dX nr.2.1
    ·have:∀q:U,Uq q->q.Nr->∀s∈q.mi,s.size<=q.size/\Uq s/\s.Nr:=by
      intro q
      induction q with
      | sum p q _ G=>
       intro z nr s H;rcases JX.1 H with rfl | H
       ·exact⟨by simp only [T.size];omega,z.dX,nr.2.1⟩
       ·obtain⟨k1,V,W⟩:=G z.dJ nr.2.2 s H;exact⟨by simp only [T.size];omega,V,W⟩
      | _=>intro z nr s H;cases JO.1 H;exact⟨JL _,z,nr⟩
     obtain⟨k1,V,W⟩:=this q z.dJ nr.2.2 s H;exact G (by omega) V W
   have fm:∀l:List U,(∀s∈l,(td s).1++(td s).2.bvs=BV s)->(l.flatMap λs=>(td s).1++(td s).2.bvs)=l.flatMap BV:=by
    intro l
    induction l with
    | nil=>intro _;rfl
    | cons s l G=>intro h;rw [Lb,Lb,h s (by simp),G λx hx=>h x (by simp [hx])]
   exact fm _ key
theorem yc:∀{K:List U},(∀t∈K,t.th=true/\Uq t/\t.Nr)->joinL (K.map td)=([],tl K)
 | [],_=>rfl
 | t::K,h=>by
  obtain⟨z,G,H⟩:=h t (by simp);simp only [J9,joinL];rw [yc (K:=K) λx I=>h x (by simp [I]),jg G H,il z,nh z,show t::K=[t]++K from rfl,gL];rfl
theorem BQ (O:List Nat){K:List U}(G:∀t∈K,t.th=true/\Uq t/\t.Nr){zs:List ((List Nat×Lv)×U)}(J:∀z∈zs,Pc z.1 z.2):Lv.tidy (O++(joinL (zs.map (·.1))).1) ((tl K).app (joinL (zs.map (·.1))).2)=td (resL O (parL (K++zs.map (·.2)))):=by
 have h:=yk (own:=O) (Pc.join (zs:=K.map (λt=>(td t,t))++zs) λz H=>by
  rcases JN.1 H with h | h
  ·obtain⟨t,I,rfl⟩:=Kk.1 h;exact Pc.nr (G t I).2.1 (G t I).2.2
  ·exact J z h)
 rw [Kz,Kz,Li,Li,pn]at h;have V:K.map ((λz:(List Nat×Lv)×U=>z.1)∘λt=>(td t,t))=K.map td:=rfl;have W:K.map ((λz:(List Nat×Lv)×U=>z.2)∘λt=>(td t,t))=K:=List.map_id K;rw [V,W,yc G]at h;exact h
theorem DQ:∀{l:List U},(∀t∈l,t.th=true)->(tl l).bn=l.map λt=>tl [t]
 | [],_=>rfl
 | t::l,h=>by
  have z:=h t (by simp);have G:=DQ (l:=l) λx H=>h x (by simp [H])
  cases t<;>first | (cases z;done) | simp only [tl,Lv.bn,G,J9]
theorem vb {X Y:Type}(f:X->Y)(P:Nat->Bool):∀(l:List X) (k:Nat),jX P (l.map f) k=(jX P l k).map f
 | [],k=>by rw [Lj,jw,jw];rfl
 | x::l,k=>by
  rw [J9,ck,ck,vb f P l (k+1)];split<;>simp
theorem Aj:∀l:List U,elsL (l.map λt=>tl [t])=tl l
 | []=>rfl
 | t::l=>by rw [J9,elsL,Aj l,<-gL];rfl
theorem G7 {l:List U}(h:∀t∈l,t.th=true)(P:Nat->Bool):elsL (jX P (tl l).bn 0)=tl (jX P l 0):=by
 rw [DQ h,vb,Aj]
theorem FD {O:List Nat}{ts G:List U}(h:ts.Perm G)(n:Nu (resL O (parL ts))):Nu (resL O (parL G)):=by
 have H:(BV (resL O (parL ts))).Perm (BV (resL O (parL G))):=by
  rw [gb,gb,fX,fX];exact(KK _).append (h.flatMap_right _)
 have J:∀z,(resL O (parL G)).Fr z->(resL O (parL ts)).Fr z:=λz I=>by
  obtain⟨V,W⟩:=fg.1 I;obtain⟨t,Z,I⟩:=lQ.1 W;exact fg.2 ⟨V,lQ.2 ⟨t,h.symm.subset Z,I⟩⟩
 have α:∀z,(resL O (parL G)).Us z->(resL O (parL ts)).Us z:=λz I=>by
  obtain⟨V,W⟩:=jV.1 I;obtain⟨t,Z,I⟩:=rm.1 W;exact jV.2 ⟨V,rm.2 ⟨t,h.symm.subset Z,I⟩⟩
 exact⟨⟨H.nodup_iff.1 n.uq.nd,λx hx hf=>n.uq.nf x (H.symm.subset hx) (J x hf)⟩,λy hy=>n.fr y (α y hy),λx hx=>n.bv x (H.symm.subset hx)⟩
theorem BX {ths:List U}{i k:Nat}(G:i< ths.length)(H:k< ths.length)(z:i≠k)(p q:U):(wo ths i i++[p,q]).Perm (bG ths i k p q true ths[k]):=by
 unfold bG;have h:=Gp ths i k G H z;refine(h.append (KK _)).trans ?_;rw [Ka rfl,Kg,Kg];exact(KK _).append LF
structure qy (b b2 n0 c:Nat)(w0 w':World)(acc:List U)(M:Nat->Prop):Prop where
 km:Km b w0 w'
 rs:HO w0.heap.size w' b2 (outs acc) (!jb acc) M
 mc:∃n,Mk w' b n/\n0<=n/\n<=n0+c
 hb:b< w0.heap.size
section
variable {b b2 n0 c:Nat} {w0 w w':World} {acc:List U} {M:Nat->Prop}
theorem qy.nb (h:qy b b2 n0 c w0 w acc M):¬M b:=λz=>by have :=(h.rs.mr b z).1;have :=h.hb;omega
theorem qy.ex (h:qy b b2 n0 c w0 w acc M)(x:Ex w w'):qy b b2 n0 c w0 w' acc M:=by
 obtain⟨n,z,G⟩:=h.mc;exact⟨h.km.out (Kp.ah x λ _=>False) (λ _ _ h=>h) h.hb,h.rs.kp (Kp.ah x λ _=>False) λ _ _ h=>h,⟨n,z.ex x,G⟩,h.hb⟩
theorem Ip (h:qy b b2 n0 c w0 w acc M)(hl:acc.length<=1000000000){Z vo vm:Value}{v:U}(hv:∀{R:ay->Bool->World->Prop},(∀w',Ex w w'->(∀s,jY v=some s->R s true w')/\(jY v=none->R [] false w'))->Calls Tryz.prog 176 #[ptr b,Z,vo,vm] w (an [.s,.b] R))
  {S J:World->Prop} (hS:∀w',Kp w w' M->S w') (hJ:∀z H,qy b b2 n0 c w0 z (acc++[v]) H->Kp w z M->(∀g,H g->M g\/w.heap.size<=g)->J z):
  Calls Tryz.prog 176 #[ptr b,Z,vo,vm] w (an [.s,.b] fun(s:ay) (q:Bool) (w2:World)=>S w2/\Calls Tryz.prog 99 #[ptr b2,.string (ab s),.bool q] w2 (an [] fun(z:World)=>S z/\J z)):=by
 have fin:∀(s:ay) (q:Bool) (w2:World),Ex w w2->s=(jY v).getD []->q=(jY v).isSome->S w2/\Calls Tryz.prog 99 #[ptr b2,.string (ab s),.bool q] w2 (an [] fun(z:World)=>S z/\J z):=by
  intro s q w2 x I hq;have G:=h.ex x;have α:(outs acc).length=acc.length:=by unfold outs;simp
  refine⟨hS w2 (Kp.ah x _),Hr G.rs (by omega) λz H V r3 W=>?_⟩;have k:=Kp.trans (Kp.ah x M) V λ _ _ h=>h
  obtain⟨n,m1,m2,m3⟩:=G.mc;refine⟨hS z k,hJ z H ⟨G.km.out V (λg hg hM=>by have :=(G.rs.mr g hM).1;omega) h.hb,?_,⟨n,m1.kp V G.nb,m2,m3⟩,h.hb⟩ k λg hg=>(W g hg).imp id λh=>KD x.size h⟩;have e1:outs (acc++[v])=outs acc++[s]:=by rw [yz,I];rfl
  have e2:(!jb (acc++[v]))=((!jb acc)|| !q):=by
   rw [uC,hq,Bool.not_and];simp [jb]
  rw [e1,e2];exact r3
 refine hv λw2 x=>⟨λs I=>fin s true w2 x (by rw [I];rfl) (by rw [I];rfl),λhn=>fin [] false w2 x (by rw [hn];rfl) (by rw [hn];rfl)⟩
end
theorem AX {t:P}{u:U}(su:SU t u){D:Nat->Prop}{w:World}{v:Value}(h:aB D w (td u) v):∃b vo vt ts,v=ptr b/\D b/\b< w.heap.size/\w.cell? ⟨b,0,none⟩=some vo/\w.cell? ⟨b,1,none⟩=some vt/\ec D w vo (u.frL.map iv)/\ec D w vt ts/\ts.length=u.ths.length/\∀i (h:i< u.ths.length) (h':i< ts.length),af D w (tl [u.ths[i]]) [ts[i]]:=by
 rw [jg su.nu.uq su.nr]at h;obtain⟨b,vo,vt,ts,z,G,H,h4,h5,I,J,V⟩:=h;obtain⟨W,Z⟩:=AS (λq hq=>(su.nr.ths q hq).1) V;exact⟨b,vo,vt,ts,z,G,H,h4,h5,I,J,W,Z⟩
theorem SU.th {t:P}{u:U}(su:SU t u):∀q∈u.ths,q.th=true/\Uq q/\q.Nr:=λq z=>by
 obtain⟨i,G,rfl⟩:=KA.1 z;exact⟨(su.nr.ths _ z).1,su.kH G (Sub.refl _) (KL _),(su.nr.ths _ z).2⟩
theorem pf (u:U):(td u).1.length+(td u).2.tot<=4* u.size:=by
 have z:=og (flat u).1 (flat u).2;have G:=cB u;have e:Lv.tidy (flat u).1 (flat u).2=td u:=rfl;rw [e]at z;omega
theorem jH (f:Nat->Nat):∀l:Lv,(l.map f).tot=l.tot
 | .nil=>rfl
 | .thr k a b o r n=>by simp only [Lv.map,Lv.tot,jH f r,jH f n,JY]
 | .sum z n=>by simp only [Lv.map,Lv.tot,jH f z,jH f n]
 | .part o q n=>by simp only [Lv.map,Lv.tot,jH f q,jH f n,JY]
theorem xp {t:P}{u:U}(su:SU t u)(η:u.size<=1000){w:World}{b:Nat}{vl vg vo vm:Value}{gl:List Nat}{mvs:List Value}{zs:List ((List Nat×Lv)×U)}{V:U}(W:w.cell? ⟨b,2,none⟩=some vl)(Z:b< w.heap.size)(hl:aB (λg=>g< w.heap.size) w (td u) vl)(hg:ec (λg=>g< w.heap.size) w vg (gl.map iv))(α:gl.length<=1000)
  (ho:ec (λg=>g< w.heap.size) w vo (u.frL.map iv)) (hm:ec (λg=>g< w.heap.size) w vm mvs) (β:aK (λL v=>aB (λg=>g< w.heap.size) w L v) (zs.map (·.1)) mvs) (γ:mvs.length<=1000) (hz:∀z∈zs,Pc z.1 z.2) (θ:(joinL (zs.map (·.1))).1.length+(joinL (zs.map (·.1))).2.tot<=1000000)
  {P:Nat->Bool} (hP:∀i,P i=decide (i∈gl)) (H:Nu (resL u.frL (parL (jX P u.ths 0++zs.map (·.2))))) (δ:jY (resL u.frL (parL (jX P u.ths 0++zs.map (·.2))))=jY V) {R:ay->Bool->World->Prop} (hR:∀w',Ex w w'->(∀s,jY V=some s->R s true w')/\(jY V=none->R [] false w')):
  Calls Tryz.prog 176 #[ptr b,vg,vo,vm] w (an [.s,.b] R):=by
 have I:=jg su.nu.uq su.nr;have J:=su.th;have e:=BQ u.frL (K:=jX P u.ths 0) (λt ht=>J t (rD ht)) hz;have G:=pf u;rw [I]at hl G;have ε:∀x∈zs.map (·.1),x.2.sh true=true:=λx hx=>by
  obtain⟨z,h1,rfl⟩:=Kk.1 hx;exact(hz z h1).sh
 have ζ:(tl u.ths).sh true=true:=by have :=AD u;rw [I]at this;exact this
 simp only at G;refine Gh (res:=(u.frL++(joinL (zs.map (·.1))).1,(tl (jX P u.ths 0)).app (joinL (zs.map (·.1))).2)) W Z hl hg α ho hm β γ ζ ε (by omega) hP (by rw [G7 λt ht=>(J t ht).1]) ?_ ?_ λw' x=>?_
 ·rw [e];exact ze H.uq H.bv
 ·rw [e];exact Gx H
 ·rw [e];have:zm (td (resL u.frL (parL (jX P u.ths 0++zs.map (·.2)))))=jY V:=δ;rw [this];exact hR w' x
theorem aK.ID {A B:Type}{R:A->B->Prop}:aK R [] []:=⟨rfl,λi a b h=>by simp at h⟩
theorem IG {w w1:World}{e g:Nat}{x:Value}(G:g=w.heap.size)(hw:w1=w.alloc (.cells #[x] e)):ec (λg=>g< w1.heap.size) w1 (.slice (some ⟨g,0,none⟩) 1 1) [x]:=by
 subst G hw;refine .inr ⟨w.heap.size,0,1,rfl,by rw [size_alloc];omega,by rw [size_alloc];omega,λi y z=>?_⟩;cases i with
 | zero=>simp only [KS,KP]at z;subst z;exact aa rfl
 | succ i=>simp at z
theorem Jv {w w1:World}{e g:Nat}{x z:Value}(H:g=w.heap.size)(hw:w1=w.alloc (.cells #[x,z] e)):ec (λg=>g< w1.heap.size) w1 (.slice (some ⟨g,0,none⟩) 2 2) [x,z]:=by
 subst H hw;refine .inr ⟨w.heap.size,0,2,rfl,by rw [size_alloc];omega,by rw [size_alloc];omega,λi y G=>?_⟩
 match i,G with
 | 0,G=>simp only [KS,KP]at G;subst G;exact aa rfl
 | 1,G=>simp only [List.getElem?_cons_succ,KS,KP]at G;subst G;exact aa rfl
 | i+2,G=>simp at G
theorem IX {D:Nat->Prop}{w w1:World}{v:Value}{l:List Value}(h:ec D w v l)(x:Ex w w1):ec (λg=>g< w1.heap.size) w1 v l:=(h.ex x).sub λg z _=>z
theorem gK:∀u:U,(BV u).length<=u.size
 | .nil=>by simp [BV]
 | .snd a b p=>by have :=gK p;simp only [BV,T.size];omega
 | .mat a b p=>by have :=gK p;simp only [BV,T.size];omega
 | .rcv a b p=>by have :=gK p;simp only [BV,T.size,JA];omega
 | .res b p=>by have :=gK p;simp only [BV,T.size,JA];omega
 | .tau p=>by have :=gK p;simp only [BV,T.size];omega
 | .rep p=>by have :=gK p;simp only [BV,T.size];omega
 | .sum p q=>by have :=gK p;have :=gK q;simp only [BV,T.size,JJ];omega
 | .par p q=>by have :=gK p;have :=gK q;simp only [BV,T.size,JJ];omega
theorem eg:∀u:U,∀q∈u.ths,q.size<=u.size:=by
 intro u
 induction u with
 | nil=>intro q h;cases h
 | res x p G=>intro q h;have :=G q h;simp only [T.size];omega
 | par p r G z=>
  intro q h;simp only [T.size];rcases JX.1 h with rfl | h
  ·omega
  ·have :=z q h;omega
 | _=>intro q h;cases JO.1 h;exact JL _
section
variable {t:P} {u:U} {b b2 n0 c:Nat} {w w1:World} {acc:List U} {M D:Nat->Prop}
theorem Hv (ok:lZ t)(su:SU t u)(hsz:u.size<=60)(h:qy b b2 n0 c w w1 acc M){bl:Nat}(hcl:w1.cell? ⟨b,2,none⟩=some (ptr bl))(hl:aB D w1 (td u) (ptr bl))(hD:∀g,D g->g≠b/\g< w.heap.size){i:Nat}{p:U}(hi:i< u.ths.length)(ho:Off.tau p∈offs u.ths[i]){Z:Nat}{vr:Value}(c3:w1.cell? ⟨Z,3,none⟩=some vr)(hb40:Z< w1.heap.size)(hMb:¬M Z)(κ:aB D w1 (td p) vr)
  (hacc:acc.length<=1000000000) {J:World->Prop} (hJ:∀w3 M',qy b b2 n0 c w w3 (acc++[H6 u i p]) M'->Kp w1 w3 M->(∀g,M' g->M g\/w1.heap.size<=g)->J w3):
  ∃G:World->Prop,∀H:World,H=World.drew w1->G H/\∃(b47 o48:Nat),ptr b=Value.pointer (some ⟨b47,o48,none⟩)/\∃v49:Value,(∀w',G w'->World.cell? w' ⟨b47,(o48+2),none⟩=some v49)/\∃(b50 o51:Nat),v49=Value.pointer (some ⟨b50,o51,none⟩)/\∃μ:Value,(∀w',G w'->World.cell? w' ⟨b50,(o51+0),none⟩=some μ)/\∃v53:Value,(∀w',G w'->World.cell? w' ⟨Z,3,none⟩=some v53)/\(∀(ν:Nat) (I:World),ν=Array.size (World.heap H)->I=World.alloc H (Obj.cells #[(Value.int IntKind.i64 (i:Int))] 3)->G I/\oneV v53=true/\∀(ξ:Nat) (α:World),ξ=Array.size (World.heap I)->α=World.alloc I (Obj.cells #[v53] 146)->G α/\Calls Tryz.prog 176 #[ptr b,(Value.slice (some ⟨ν,0,none⟩) 1 1),μ,(Value.slice (some ⟨ξ,0,none⟩) 1 1)] α (an [.s,.b] fun(ο:ay) (ς:Bool) (γ:World)=>G γ/\Calls Tryz.prog 99 #[(Value.pointer (some ⟨b2,0,none⟩)),(Value.string (ab ο)),(Value.bool ς)] γ (an [] fun(δ:World)=>G δ/\J δ)))/\
   (oneV v53=true/\∀(υ:Nat) (V:World),υ=Array.size (World.heap H)->V=World.alloc H (Obj.cells #[v53] 146)->G V/\∀(φ:Nat) (β:World),φ=Array.size (World.heap V)->β=World.alloc V (Obj.cells #[(Value.int IntKind.i64 (i:Int))] 3)->G β/\Calls Tryz.prog 176 #[ptr b,(Value.slice (some ⟨φ,0,none⟩) 1 1),μ,(Value.slice (some ⟨υ,0,none⟩) 1 1)] β (an [.s,.b] fun(s66:ay) (q67:Bool) (w68:World)=>G w68/\Calls Tryz.prog 99 #[(Value.pointer (some ⟨b2,0,none⟩)),(Value.string (ab s66)),(Value.bool q67)] w68 (an [] fun(w69:World)=>G w69/\J w69))):=by
 have hb:=h.hb;have s0:=h.km.size;have hDM:∀g,D g->¬M g:=λg hg hM=>by have :=(hD g hg).2;have :=(h.rs.mr g hM).1;omega
 obtain⟨bl',vo,vt,ts,e1,k2,k3,k4,k5,k6,k7,k8,k9⟩:=AX su hl;cases e1;have hNu:=(Cq ok su hi ho).1;obtain⟨sU,_⟩:=aW (su.smp _ (JM hi)) _ ho;have uqp:Uq p:=(su.kH hi sU (fZ _ ho)).tau;have nrp:p.Nr:=sU.nr (su.nrs _ (JM hi));have hwo:jX (λn=>n==i||n==i) u.ths 0=wo u.ths i i:=(zL _ _ _).symm;have htp:=pf p;have hps:p.size<=60:=by have h1:=sU.size;have h2:=eg u _ (JM hi);simp only [Off.tm,T.size]at h1;omega
 have go:∀(wc:World) (vg vm:Value),Ex w1 wc->ec (λg=>g< wc.heap.size) wc vg [iv i]->ec (λg=>g< wc.heap.size) wc vm [vr]->Calls Tryz.prog 176 #[ptr b,vg,vo,vm] wc (an [.s,.b] fun(ο:ay) (ς:Bool) (γ:World)=>Kp w1 γ M/\Calls Tryz.prog 99 #[(Value.pointer (some ⟨b2,0,none⟩)),(Value.string (ab ο)),(Value.bool ς)] γ (an [] fun(δ:World)=>Kp w1 δ M/\J δ)):=by
  intro wc vg vm xc hg hm;have sc:=xc.size;have kc:Kp w1 wc M:=Kp.ah xc _;refine Ip (h.ex xc) hacc (λhR=>?_) (λw' k=>Kp.trans kc k λ _ _ h=>h) λw3 M' r3 k3 hM'=>hJ w3 M' r3 (Kp.trans kc k3 λ _ _ h=>h) λg hg=>(hM' g hg).imp id λh=>by omega
  refine xp su (by omega) (zs:=[(td p,p)]) (gl:=[i]) (P:=λn=>n==i||n==i) (mvs:=[vr]) (by rw [xc.cell (show b< _ by omega)];exact hcl) (by omega) (aB.sub (aB.ex hl xc) λg hg _=>hg) hg (by simp) (IX k6 xc) hm (aK.cons (aB.sub (aB.ex κ xc) λg hg _=>hg) aK.ID) (by simp) (λz hz=>by cases JO.1 hz;exact Pc.nr uqp nrp) ?_ (λj=>?_) ?_ ?_ hR
  ·simp only [J9,Lj,pP];omega
  ·simp [jz]
  ·rw [hwo];exact hNu
  ·rw [hwo];rfl
 have c3':∀w',Kp w1 w' M->w'.cell? ⟨Z,3,none⟩=some vr:=λw' k=>by rw [JB (w:=w1) (k.block Z hb40 hMb)];exact c3
 refine⟨λw'=>Kp w1 w' M,λH ε=>⟨ε▸Kp.ah (Ex.drew w1) _,b,0,rfl,ptr bl,λw' k=>by rw [JB (w:=w1) (k.block b (by omega) h.nb)];exact hcl,bl,0,rfl,vo,λw' k=>by rw [JB (w:=w1) (k.block bl k3 (hDM bl k2))];exact k4,vr,c3',λν I hb54 ζ=>?_,κ.one,λυ V hb62 η=>?_⟩⟩
 ·have W:Ex w1 H:=ε▸Ex.drew w1;have χ:Ex H I:=ζ▸Ex.alloc _ _;refine⟨Kp.ah (Ex.trans W χ) _,κ.one,λξ α hb56 θ=>?_⟩;have ψ:Ex I α:=θ▸Ex.alloc _ _;exact⟨Kp.ah (Ex.trans (Ex.trans W χ) ψ) _,go α _ _ (Ex.trans (Ex.trans W χ) ψ) (IX (IG hb54 ζ) ψ) (IG hb56 θ)⟩
 ·have W:Ex w1 H:=ε▸Ex.drew w1;have ω:Ex H V:=η▸Ex.alloc _ _;refine⟨Kp.ah (Ex.trans W ω) _,λφ β hb64 ι=>?_⟩;have x65:Ex V β:=ι▸Ex.alloc _ _;exact⟨Kp.ah (Ex.trans (Ex.trans W ω) x65) _,go β _ _ (Ex.trans (Ex.trans W ω) x65) (IG hb64 ι) (IX (IG hb62 η) x65)⟩
theorem lZ.bound (ok:lZ t)(su:SU t (num t e0 0).1):∀z,(z∈(num t e0 0).1.frL\/z∈(num t e0 0).1.ths.flatMap BV\/∃q∈(num t e0 0).1.ths,q.Fr z)->z<=(num t e0 0).2+100:=by
 have H:=su.nr.shape;have G:BV (num t e0 0).1=(num t e0 0).1.frL++(num t e0 0).1.ths.flatMap BV:=by
  have:BV (num t e0 0).1=BV (resL (num t e0 0).1.frL (parL (num t e0 0).1.ths)):=by rw [<-H]
  rw [this,gb,fX]
 have key:∀z∈BV (num t e0 0).1,z<=(num t e0 0).2+100:=λz I=>((eO t e0 0).2 z I).2
 intro z I;rcases I with h | h | h
 ·exact key z (by rw [G];exact Ke _ h)
 ·exact key z (by rw [G];exact J7 _ h)
 ·rcases su.free z h with h | h
  ·exact key z (by rw [G];exact Ke _ h)
  ·omega
theorem Fx (hu:u=(num t e0 0).1)(hn0:n0=(num t e0 0).2)(ok:lZ t)(su:SU t u)(hsz:u.size<=60)(h:qy b b2 n0 c w w1 acc M){bl:Nat}(hcl:w1.cell? ⟨b,2,none⟩=some (ptr bl))(hl:aB D w1 (td u) (ptr bl))(hD:∀g,D g->g≠b/\g< w.heap.size){i k:Nat}{e d x:Nat}{p q:U}{s:Bool}(hi:i< u.ths.length)(hk:k< u.ths.length)(hik:i≠k)(ho:Off.snd e d p∈offs u.ths[i])(hr:Off.rcv e x q s∈offs u.ths[k])
  {ι H:Nat} {vr vq:Value} (c403:w1.cell? ⟨ι,3,none⟩=some vr) (c402:w1.cell? ⟨ι,2,none⟩=some (iv d)) (χ:ι< w1.heap.size) (hMb:¬M ι) (hbb:ι≠b) (hvr:aB D w1 (td p) vr) (c108:∀j,j< 5->w1.cell? ⟨H,j,none⟩=(cQ 63 e x vq s)[j]?) (hb108:H< w1.heap.size) (hMb2:¬M H) (hbb2:H≠b) (hvq:aB D w1 (td q) vq)
  {gone:Value} (hgone:ec (λg=>g< w1.heap.size/\¬(g=b\/M g)) w1 gone ((if s then [i]else [i,k]).map iv)) (hacc:acc.length<=1000000000) (hc:n0+c<=4294966000) {J:World->Prop}
  (hJ:∀w3 M',qy b b2 n0 (c+60) w w3 (acc++[Ci u i k p (q.map (Ff (NN u) q x d)) s]) M'->Kp w1 w3 (λg=>g=b\/M g)->(∀g,M' g->M g\/w1.heap.size<=g)->J w3):
  ∃I:World->Prop,∀α:World,α=World.drew w1->I α/\∃(ψ ω:Nat),ptr b=Value.pointer (some ⟨ψ,ω,none⟩)/\∃v127:Value,(∀w',I w'->World.cell? w' ⟨ψ,(ω+2),none⟩=some v127)/\∃(b128 o129:Nat),v127=Value.pointer (some ⟨b128,o129,none⟩)/\∃v130:Value,(∀w',I w'->World.cell? w' ⟨b128,(o129+0),none⟩=some v130)/\∃v131:Value,(∀w',I w'->World.cell? w' ⟨ι,3,none⟩=some v131)/\∃c132:UInt8,∃n133:Int,∃n134:Int,∃v135:Value,∃q136:Bool,(∀w',I w'->World.cell? w' ⟨H,0,none⟩=some (Value.int IntKind.u8 (UInt8.toNat c132))/\World.cell? w' ⟨H,1,none⟩=some (Value.int IntKind.i64 n133)/\World.cell? w' ⟨H,2,none⟩=some (Value.int IntKind.i64 n134)/\World.cell? w' ⟨H,3,none⟩=some v135/\World.cell? w' ⟨H,4,none⟩=some (Value.bool q136)/\True)/\∃n137:Int,(∀w',I w'->World.cell? w' ⟨ι,2,none⟩=some (Value.int IntKind.i64 n137))/\
   Calls Tryz.prog 177 #[ptr b,(Value.agg #[(Value.int IntKind.u8 (UInt8.toNat c132)),(Value.int IntKind.i64 n133),(Value.int IntKind.i64 n134),v135,(Value.bool q136)]),(Value.int IntKind.i64 n137)] α (an [.v] fun(v138:Value) (W:World)=>I W/\oneV v131=true/\oneV v138=true/\∀(η:Nat) (G:World),η=Array.size (World.heap W)->G=World.alloc W (Obj.cells #[v131,v138] 146)->I G/\Calls Tryz.prog 176 #[ptr b,gone,v130,(Value.slice (some ⟨η,0,none⟩) 2 2)] G (an [.s,.b] fun(ν:ay) (ξ:Bool) (β:World)=>I β/\Calls Tryz.prog 99 #[(Value.pointer (some ⟨b2,0,none⟩)),(Value.string (ab ν)),(Value.bool ξ)] β (an [] fun(γ:World)=>I γ/\J γ))):=by
 have hb:=h.hb;have s0:=h.km.size;have φ:∀g,D g->¬M g:=λg Z hM=>by have :=(hD g Z).2;have :=(h.rs.mr g hM).1;omega
 obtain⟨bl',vo,vt,ts,e1,k2,k3,k4,k5,k6,k7,k8,k9⟩:=AX su hl;cases e1;obtain⟨sU,_⟩:=aW (su.smp _ (JM hi)) _ ho;have uqp:Uq p:=(su.kH hi sU (fZ _ ho)).snd;have nrp:p.Nr:=sU.nr (su.nrs _ (JM hi));obtain⟨rU,_⟩:=aW (su.smp _ (JM hk)) _ hr;have cU:=fZ _ hr;have uqr:=su.kH hk rU cU;have uqq:Uq q:=uqr.rcv;have nrq:q.Nr:=rU.nr (su.nrs _ (JM hk));have hps:p.size<=60:=by have h1:=sU.size;have h2:=eg u _ (JM hi);simp only [Off.tm,T.size]at h1;omega
 have hqs:q.size<=60:=by have h1:=rU.size;have h2:=eg u _ (JM hk);simp only [Off.tm,T.size]at h1;omega
 have htp:=pf p;have htq:=pf q;have hbvq:=CX _ (JL _) uqq nrq;have hbvl:=gK q;have hql:(td q).1.length+(td q).2.bvs.length=(BV q).length:=by rw [<-hbvq,JJ]
 have hq26:∀z∈BV q,26<=z:=λz hz=>su.ge z (J7 _ (Kv.2 ⟨_,JM hk,cU.subset (JR _ hz)⟩))
 have hMb':∀g,g< w.heap.size->g≠b->¬(g=b\/M g):=λg h1 h2 e=>e.elim h2 λhM=>by have :=(h.rs.mr g hM).1;omega
 have st:∀{w':World},Kp w1 w' (λg=>g=b\/M g)->∀{g:Nat},g< w1.heap.size->g≠b->¬M g->∀j,w'.cell? ⟨g,j,none⟩=w1.cell? ⟨g,j,none⟩:=λk g h1 h2 h3 j=>JB (w:=w1) (k.block g h1 λe=>e.elim h2 h3)
 refine⟨λw'=>Kp w1 w' (λg=>g=b\/M g)/\w'.cell? ⟨b,2,none⟩=some (ptr bl),λα hw124=>?_⟩;have θ:Ex w1 α:=hw124▸Ex.drew w1;have hbl:b< w1.heap.size:=by omega
 have S124:Kp w1 α (λg=>g=b\/M g)/\α.cell? ⟨b,2,none⟩=some (ptr bl):=⟨Kp.ah θ _,by rw [θ.cell (show b< _ from hbl)];exact hcl⟩
 refine⟨S124,b,0,rfl,ptr bl,λw' k=>k.2,bl,0,rfl,vo,λw' k=>by rw [st k.1 k3 (hD _ k2).1 (φ _ k2)];exact k4,vr,λw' k=>by rw [st k.1 χ hbb hMb];exact c403,63,e,x,vq,s,λw' k=>?_,d,λw' k=>by rw [st k.1 χ hbb hMb];exact c402,?_⟩
 ·have hc:∀j,j< 5->w'.cell? ⟨H,j,none⟩=(cQ 63 e x vq s)[j]?:=λj hj=>by rw [st k.1 hb108 hbb2 hMb2];exact c108 j hj
  exact⟨hc 0 (by omega),hc 1 (by omega),hc 2 (by omega),hc 3 (by omega),hc 4 (by omega),trivial⟩
 have μ:=h.ex θ;obtain⟨n,mn,hn1,hn2⟩:=μ.mc;refine Ht mn (aB.ex hvq θ) (λg Z=>(hD g Z).1) (AD q) (ze uqq hq26) (by omega) (by omega) λv138 W F' n' ζ mk139 V l139=>?_
 have ο:Kp w1 W (λg=>g=b\/M g):=Kp.trans (Kp.ah θ _) (Kp.mono (λ _ e=> .inl e) ζ.kp) λ _ _ h=>h
 have c139:W.cell? ⟨b,2,none⟩=some (ptr bl):=by rw [ζ.ce 2 (by omega)];exact S124.2
 refine⟨⟨ο,c139⟩,hvr.one,l139.one,λη G hb140 κ=>?_⟩;have δ:Ex W G:=κ▸Ex.alloc _ _;have s141:G.heap.size=W.heap.size+1:=by rw [κ,size_alloc]
 have s139:=ο.size;have ε:Kp w1 G (λg=>g=b\/M g):=Kp.trans ο (Kp.ah δ λ _=>False) λ _ _ h=>h.elim
 have ς:G.cell? ⟨b,2,none⟩=some (ptr bl):=by rw [δ.cell (show b< _ by omega)];exact c139
 refine⟨⟨ε,ς⟩,?_⟩;have rl:=V.len;rw [JJ]at rl;have r141:qy b b2 n0 (c+60) w G acc M:=by
  have km:Km b w W:=Km.trans μ.km ζ;exact⟨km.out (Kp.ah δ λ _=>False) (λ _ _ h=>h) hb,(μ.rs.kp ζ.kp λg hM e=>μ.nb (e▸hM)).kp (Kp.ah δ λ _=>False) λ _ _ h=>h,⟨n',mk139.ex δ,by have :=V.le;omega,by omega⟩,hb⟩
 have hF:EC (n+100) q x d F':=by
  rw [hbvq]at V;refine⟨?_,λz h1 h2=>?_,λz hz=>(V.rng z hz).1,λz hz y hy e=>V.inj z hz y hy e⟩
  ·rw [V.out x uqr.kV];simp [aF]
  ·rw [V.out z h2];simp [aF,h1]
 have hNn:∀z,(z∈u.frL\/z∈u.ths.flatMap BV\/∃q∈u.ths,q.Fr z)->z<=n+100:=λz hz=>by
  subst hu;have :=lZ.bound ok su z hz;omega
 have hcok:=rh w1 ok su hi hk hik ho hr hF hNn (by omega);have υ:=Bu w1 ok su hi hk hik ho hr hF hNn (by omega) (y7 (NN u) d uqr.kV) su.bound (by unfold NN;omega);have ezs:([((td p),p),(Lv.dV F' (td q),q.map F')]:List ((List Nat×Lv)×U)).map (·.2)=[p,q.map F']:=rfl;have s1:=h.km.size;have hm2:ec (λg=>g< G.heap.size) G (.slice (some ⟨η,0,none⟩) 2 2) [vr,v138]:=Jv hb140 κ;have hlS:aB (λg=>g< G.heap.size) G (td u) (ptr bl):=aB.sub (aB.kp hl ε λg Z e=>e.elim (hD g Z).1 (φ g Z)) λg Z _=>Z
 have hvoS:ec (λg=>g< G.heap.size) G vo (u.frL.map iv):=(k6.kp ε λg Z e=>e.elim (hD g Z).1 (φ g Z)).sub λg Z _=>Z
 have hvrS:aB (λg=>g< G.heap.size) G (td p) vr:=aB.sub (aB.kp hvr ε λg Z e=>e.elim (hD g Z).1 (φ g Z)) λg Z _=>Z
 have hv138:aB (λg=>g< G.heap.size) G (Lv.dV F' (td q)) v138:=aB.sub (aB.ex l139 δ) λg Z _=>Z
 have hgS:ec (λg=>g< G.heap.size) G gone ((if s then [i]else [i,k]).map iv):=(hgone.kp ε λg Z=>Z.2).sub λg Z _=>Z
 have hlen:(joinL ([((td p),p),(Lv.dV F' (td q),q.map F')].map (·.1):List (List Nat×Lv))).1.length+(joinL ([((td p),p),(Lv.dV F' (td q),q.map F')].map (·.1):List (List Nat×Lv))).2.tot<=1000000:=by
  simp only [J9,Lj,joinL,JJ,JY,JQ,Lv.bV,jH,Lv.tot];omega
 have hz:∀z∈([((td p),p),(Lv.dV F' (td q),q.map F')]:List ((List Nat×Lv)×U)),Pc z.1 z.2:=λz hz=>by
  rcases JX.1 hz with rfl | hz
  ·exact Pc.nr uqp nrp
  ·cases JO.1 hz;exact Pc.map F' uqq nrq
 have hms:aK (λL v=>aB (λg=>g< G.heap.size) G L v) ([((td p),p),(Lv.dV F' (td q),q.map F')].map (·.1):List (List Nat×Lv)) [vr,v138]:=aK.cons hvrS (aK.cons hv138 aK.ID);have kJ:∀w',Kp G w' M->Kp w1 w' (λg=>g=b\/M g)/\w'.cell? ⟨b,2,none⟩=some (ptr bl):=λw' k=>⟨Kp.trans ε k λ _ _ h=> .inr h,by rw [JB (w:=G) (k.block b (by omega) h.nb)];exact ς⟩
 have aft:∀{P:Nat->Bool} {gl:List Nat},ec (λg=>g< G.heap.size) G gone (gl.map iv)->gl.length<=2->(∀j,P j=decide (j∈gl))->Nu (resL u.frL (parL (jX P u.ths 0++[p,q.map F'])))->jY (resL u.frL (parL (jX P u.ths 0++[p,q.map F'])))=jY (Ci u i k p (q.map (Ff (NN u) q x d)) s)->
   Calls Tryz.prog 176 #[ptr b,gone,vo,(Value.slice (some ⟨η,0,none⟩) 2 2)] G (an [.s,.b] fun(ν:ay) (ξ:Bool) (β:World)=>(Kp w1 β (λg=>g=b\/M g)/\β.cell? ⟨b,2,none⟩=some (ptr bl))/\Calls Tryz.prog 99 #[(Value.pointer (some ⟨b2,0,none⟩)),(Value.string (ab ν)),(Value.bool ξ)] β (an [] fun(γ:World)=>(Kp w1 γ (λg=>g=b\/M g)/\γ.cell? ⟨b,2,none⟩=some (ptr bl))/\J γ)):=by
  intro P gl Z hgl hP hv hn;refine Ip r141 hacc (λhR=>xp su (by omega) (zs:=[((td p),p),(Lv.dV F' (td q),q.map F')]) (gl:=gl) (P:=P) (mvs:=[vr,v138]) ς (by omega) hlS Z (by omega) hvoS hm2 hms (by simp) hz hlen hP hv hn hR) kJ λw3 M' r3 k3 hM'=>hJ w3 M' r3 (kJ w3 k3).1 λg Z=>(hM' g Z).imp id λh=>by omega
 have egd:u.ths.getD k .nil=u.ths[k]:=cN hk;cases s
 ·have e1:jX (λn=>n==i||n==k) u.ths 0++[p,q.map F']=bG u.ths i k p (q.map F') false u.ths[k]:=by
   unfold bG;rw [zL];simp
  refine aft (P:=λn=>n==i||n==k) (gl:=[i,k]) hgS (by simp) (λj=>?_) (by rw [e1];exact hcok.1) (by rw [e1];unfold Ci;rw [egd];exact υ);simp [jz,Bool.decide_or]
 ·have e1:jX (λn=>n==i||n==i) u.ths 0++[p,q.map F']=wo u.ths i i++[p,q.map F']:=by rw [zL]
  have hp:=BX hi hk hik p (q.map F');refine aft (P:=λn=>n==i||n==i) (gl:=[i]) hgS (by simp) (λj=>?_) (by rw [e1];exact FD hp.symm hcok.1) (by rw [e1];unfold Ci;rw [egd];exact(DP hp).trans υ);simp [jz]
end
theorem zt {w w1:World}{g e:Nat}{cs:List Value}(Z:cs.length=5)(I:g=w.heap.size)(z:w1=w.alloc (.cells #[.int .u8 0,.int .i64 0,.int .i64 0,.pointer none,.bool false] e)):
  (∀j,j< 5->(∃u,w1.cell? ⟨g,0+j,none⟩=some u)/\w1.frozen? ⟨g,0+j,none⟩=false)/\∀w2,w2=World.setCells w1 g 0 cs->Ex w w2/\g< w2.heap.size/\∀j,j< 5->w2.cell? ⟨g,j,none⟩=cs[j]?:=by
 have J:∀j,j< 5->∃u,w1.cell? ⟨g,0+j,none⟩=some u:=λj G=>by
  rw [z,I];have:∃u,(#[.int .u8 0,.int .i64 0,.int .i64 0,.pointer none,.bool false]:Array Value)[0+j]?=some u:=by
   rw [J'];exact⟨_,Array.getElem?_eq_getElem (by simpa using G)⟩
  obtain⟨u,hu⟩:=this;exact⟨u,aa hu⟩
 refine⟨λj G=>⟨J j G,by rw [z,I];exact aO _ _ _ _⟩,λw2 H=>?_⟩;obtain⟨k,_,_,V⟩:=a7 (b:=g) cs w1 0;rw [<-H]at k V;have W:Ex w w1:=z▸Ex.alloc _ _;have s1:w1.heap.size=w.heap.size+1:=by rw [z,size_alloc]
 have s2:=k.size;refine⟨Ex.below W (Kp.below k W.size λb hb e=>by omega),by omega,λj G=>?_⟩;have :=V j (λi hi=>J i (by omega)) (by omega)
 rwa [J']at this
theorem fF {A:Type}:∀t:T A,(offs t).length<=t.size:=by
 intro t
 induction t with
 | sum p q z G=>simp only [offs,JJ,T.size];omega
 | rep p z=>simp only [offs,JY,T.size];omega
 | _=>simp [offs,T.size]
theorem ik {X Y:Type}{f:X->List Y}{c:Nat}:∀{l:List X},(∀x∈l,(f x).length<=c)->(l.flatMap f).length<=l.length* c
 | [],_=>by simp
 | x::l,h=>by
  have G:=h x (by simp);have H:=ik (f:=f) (c:=c) (l:=l) λy z=>h y (by simp [z])
  simp only [Lb,JJ,JA,Nat.succ_mul];omega
theorem lA.any {D:Nat->Prop}{w:World}{o:Off Nat}{cs:List Value}(h:lA D w o cs):∃(k:UInt8) (a b:Nat) (vr:Value) (s:Bool),cs=cQ k a b vr s/\oneV vr=true:=by
 cases o with
 | tau p=>obtain⟨a,b,vr,s,z,G⟩:=h;exact⟨126,a,b,vr,s,z,G.one⟩
 | snd a b p=>obtain⟨vr,s,z,G⟩:=h;exact⟨33,a,b,vr,s,z,G.one⟩
 | rcv a b p s=>obtain⟨vr,z,G⟩:=h;exact⟨63,a,b,vr,s,z,G.one⟩
theorem tu {k:UInt8}{a b:Nat}{vr:Value}{s:Bool}(h:oneV vr=true):(cQ k a b vr s).all oneV=true:=by simp only [cQ,KR,Mm,LY,h];rfl
theorem vV {D:Nat->Prop}{B:Nat}{w:World}{v:Value}{os:List (Off Nat)}{xs:List Value}(z:cE B w v os.length xs)(hm:OffsM D w os xs){j:Nat}(G:j< os.length):∃(g cap:Nat) (cs:List Value),v= .slice (some ⟨g,0,none⟩) os.length cap/\lA D w os[j] cs/\∀i u,cs[i]?=some u->∀off,off=j* 5+i->i< 5->w.cell? ⟨g,off,none⟩=some u:=by
 obtain⟨cs,H,I⟩:=hm.at G;rcases z.cell with⟨_,W,_⟩ | ⟨g,cap,rfl,_,J⟩
 ·omega
 ·refine⟨g,cap,cs,rfl,H,λi u hu off he V=>?_⟩;have :=J (j* 5+i) u (by rw [I i V];exact hu);rw [he];rwa [J']at this
section
variable {t:P} {u:U} {b b2 n0:Nat} {w:World} {D:Nat->Prop}
def Rel (b:Nat)(w1:World)(z:Nat->Prop)(w2:World)(M2:Nat->Prop):Prop:=Kp w1 w2 (λg=>g=b\/z g)/\∀g,M2 g->z g\/w1.heap.size<=g
theorem Rel.refl (b:Nat)(w:World)(M:Nat->Prop):Rel b w M w M:=⟨Kp.ah (Ex.refl w) _,λ _ h=> .inl h⟩
theorem Rel.trans {b:Nat}{w1 w2 z:World}{G M2 H:Nat->Prop}(h:Rel b w1 G w2 M2)(k:Rel b w2 M2 z H):Rel b w1 G z H:=
 ⟨Kp.trans h.1 k.1 λg I e=>e.elim .inl λJ=>(h.2 g J).elim .inr λh=>by omega,λg I=>(k.2 g I).elim (h.2 g) λV=> .inr (KD h.1.size V)⟩
theorem Rel.ex {b:Nat}{w1 w2 z:World}{G M2:Nat->Prop}(h:Rel b w1 G w2 M2)(x:Ex w2 z):Rel b w1 G z M2:=h.trans ⟨Kp.ah x _,λ _ h=> .inl h⟩
theorem qy.mono {c z:Nat}{w w':World}{acc:List U}{M:Nat->Prop}(h:qy b b2 n0 c w w' acc M)(I:c<=z):qy b b2 n0 z w w' acc M:=by
 obtain⟨n,G,H,J⟩:=h.mc;exact⟨h.km,h.rs,⟨n,G,H,by omega⟩,h.hb⟩
theorem G9 (hu:u=(num t e0 0).1)(hn0:n0=(num t e0 0).2)(ok:lZ t)(su:SU t u)(hsz:u.size<=60){bl:Nat}(hcl0:w.cell? ⟨b,2,none⟩=some (ptr bl))(hl0:aB D w (td u) (ptr bl))(hD:∀g,D g->g≠b/\g< w.heap.size){i k:Nat}{e d:Nat}{p:U}(hi:i< u.ths.length)(hk:k< u.ths.length)(ho:Off.snd e d p∈offs u.ths[i])
  {w1:World} {M:Nat->Prop} {acc:List U} (h:qy b b2 n0 (60* acc.length) w w1 acc M) (hacc:acc.length<=20000000) {V:Nat} {vr:Value} {s0:Bool} (c40:∀j,j< 5->w1.cell? ⟨V,j,none⟩=(cQ 33 e d vr s0)[j]?) (hb40:V< w1.heap.size) (hMb:¬M V) (hbb:V≠b) (hvr:aB D w1 (td p) vr)
  {v89:Value} (h89:af D w1 (tl [u.ths[k]]) [v89]) {J:World->Prop} (hJ:∀w3 M',qy b b2 n0 (60* (acc++E2 u i e d p k).length) w w3 (acc++E2 u i e d p k) M'->Rel b w1 M w3 M'->J w3):
  Calls Tryz.prog 140 #[v89] w1 (an [.v] fun(v90:Value) (μ:World)=>∃(a92:Option Addr) (υ cap94:Nat),v90=Value.slice a92 υ cap94/\∃(I95:Int->World->Prop) (ν:Int->World->Nat),I95 (0) μ/\∀(G:Int) (Z:World),I95 G Z->((decide (G< (υ:Int)))=true->∃(b99 θ ω cap102:Nat),v90=Value.slice (some ⟨b99,θ,none⟩) ω cap102/\0<=(G:Int)/\(G:Int)< ω/\∃c103:UInt8,∃n104:Int,∃n105:Int,∃v106:Value,∃q107:Bool,(World.cell? Z ⟨b99,(θ+Int.toNat G* 5),none⟩=some (Value.int IntKind.u8 (UInt8.toNat c103))/\World.cell? Z ⟨b99,((θ+Int.toNat G* 5)+1),none⟩=some (Value.int IntKind.i64 n104)/\World.cell? Z ⟨b99,(((θ+Int.toNat G* 5)+1)+1),none⟩=some (Value.int IntKind.i64 n105)/\World.cell? Z ⟨b99,((((θ+Int.toNat G* 5)+1)+1)+1),none⟩=some v106/\World.cell? Z ⟨b99,(((((θ+Int.toNat G* 5)+1)+1)+1)+1),none⟩=some (Value.bool q107)/\True)/\
   ∀(H:Nat) (ξ:World),H=Array.size (World.heap Z)->ξ=World.alloc Z (Obj.cells #[(Value.int IntKind.u8 0),(Value.int IntKind.i64 0),(Value.int IntKind.i64 0),(Value.pointer none),(Value.bool false)] 160)->(List.length [(Value.int IntKind.u8 (UInt8.toNat c103)),(Value.int IntKind.i64 n104),(Value.int IntKind.i64 n105),v106,(Value.bool q107)]=5/\List.all [(Value.int IntKind.u8 (UInt8.toNat c103)),(Value.int IntKind.i64 n104),(Value.int IntKind.i64 n105),v106,(Value.bool q107)] oneV=true/\∀j,j< 5->(∃u,World.cell? ξ ⟨H,0+j,none⟩=some u)/\World.frozen? ξ ⟨H,0+j,none⟩=false)/\
   ∀z:World,z=World.setCells ξ H 0 [(Value.int IntKind.u8 (UInt8.toNat c103)),(Value.int IntKind.i64 n104),(Value.int IntKind.i64 n105),v106,(Value.bool q107)]->((decide ((k:Int)=(i:Int)))=false->∃c111:UInt8,World.cell? z ⟨H,0,none⟩=some (Value.int IntKind.u8 (UInt8.toNat c111))/\((!decide (c111=63))=false->∃n112:Int,World.cell? z ⟨H,1,none⟩=some (Value.int IntKind.i64 n112)/\∃n113:Int,World.cell? z ⟨V,1,none⟩=some (Value.int IntKind.i64 n113)/\((!decide (n112=n113))=true->aj (G+1)/\I95 ((G+1)) z/\ν ((G+1)) z< ν G Z)/\((!decide (n112=n113))=false->∀(W:Nat) (α:World),W=Array.size (World.heap z)->α=World.alloc z (Obj.cells #[(Value.int IntKind.i64 (i:Int)),(Value.int IntKind.i64 (k:Int))] 3)->∃J116:Value->World->Prop,(∃q117:Bool,World.cell? α ⟨H,4,none⟩=some (Value.bool q117)/\(q117=true->∃(a118:Option Addr) (len119 γ:Nat),(Value.slice (some ⟨W,0,none⟩) 2 2)=Value.slice a118 len119 γ/\0<=(0:Int)/\(0:Int)<=1/\1<=(γ:Int)/\J116 ((Value.slice (if γ=Int.toNat 0 then a118 else Option.map (·.add (Int.toNat 0* 1)) a118) (Int.toNat 1 - Int.toNat 0) (γ - Int.toNat 0))) α)/\(q117=false->J116 ((Value.slice (some ⟨W,0,none⟩) 2 2)) α))/\
   ∀(ο:Value) (ε:World),J116 ο ε->∃β:World->Prop,∀w124:World,w124=World.drew ε->β w124/\∃(b125 o126:Nat),ptr b=Value.pointer (some ⟨b125,o126,none⟩)/\∃v127:Value,(∀w',β w'->World.cell? w' ⟨b125,(o126+2),none⟩=some v127)/\∃(b128 o129:Nat),v127=Value.pointer (some ⟨b128,o129,none⟩)/\∃v130:Value,(∀w',β w'->World.cell? w' ⟨b128,(o129+0),none⟩=some v130)/\∃v131:Value,(∀w',β w'->World.cell? w' ⟨V,3,none⟩=some v131)/\∃c132:UInt8,∃n133:Int,∃n134:Int,∃v135:Value,∃q136:Bool,(∀w',β w'->World.cell? w' ⟨H,0,none⟩=some (Value.int IntKind.u8 (UInt8.toNat c132))/\World.cell? w' ⟨H,1,none⟩=some (Value.int IntKind.i64 n133)/\World.cell? w' ⟨H,2,none⟩=some (Value.int IntKind.i64 n134)/\World.cell? w' ⟨H,3,none⟩=some v135/\World.cell? w' ⟨H,4,none⟩=some (Value.bool q136)/\True)/\∃n137:Int,(∀w',β w'->World.cell? w' ⟨V,2,none⟩=some (Value.int IntKind.i64 n137))/\
   Calls Tryz.prog 177 #[ptr b,(Value.agg #[(Value.int IntKind.u8 (UInt8.toNat c132)),(Value.int IntKind.i64 n133),(Value.int IntKind.i64 n134),v135,(Value.bool q136)]),(Value.int IntKind.i64 n137)] w124 (an [.v] fun(v138:Value) (w139:World)=>β w139/\oneV v131=true/\oneV v138=true/\∀(b140:Nat) (w141:World),b140=Array.size (World.heap w139)->w141=World.alloc w139 (Obj.cells #[v131,v138] 146)->β w141/\Calls Tryz.prog 176 #[ptr b,ο,v130,(Value.slice (some ⟨b140,0,none⟩) 2 2)] w141 (an [.s,.b] fun(s142:ay) (q143:Bool) (w144:World)=>β w144/\Calls Tryz.prog 99 #[(Value.pointer (some ⟨b2,0,none⟩)),(Value.string (ab s142)),(Value.bool q143)] w144 (an [] fun(w145:World)=>β w145/\aj (G+1)/\I95 ((G+1)) w145/\ν ((G+1)) w145< ν G Z)))))/\((!decide (c111=63))=true->aj (G+1)/\I95 ((G+1)) z/\ν ((G+1)) z< ν G Z))/\((decide ((k:Int)=(i:Int)))=true->aj (G+1)/\I95 ((G+1)) z/\ν ((G+1)) z< ν G Z))/\((decide (G< (υ:Int)))=false->J Z)):=by
 have hthk:=su.th _ (JM hk);have hks:=eg u _ (JM hk);have sw0:=h.km.size;have hDM:∀g,D g->¬(g=b\/M g):=λg hg e=>e.elim (hD g hg).1 λhM=>by have :=(hD g hg).2;have :=(h.rs.mr g hM).1;omega
 have egd:u.ths.getD k .nil=u.ths[k]:=cN hk;generalize hos:offs u.ths[k]=os at*;have hosl:os.length<=60:=by have :=fF u.ths[k];rw [hos]at this;omega
 have hE3:∀r,((os.take r).flatMap (E3 u i k e d p)).length<=60:=λr=>by
  have h1:=ik (f:=E3 u i k e d p) (c:=1) (l:=os.take r) λx _=>by
   cases x with
   | rcv e' x q s=>unfold E3;simp only;split<;>simp
   | _=>simp [E3]
  rw [Kf]at h1;omega
 refine rM hthk.1 hthk.2.1 hthk.2.2 (su.smp _ (JM hk)) (by omega) (λg hg=>by have :=(hD g hg).2;omega) h89 λv90 μ xs x91 ho91 hm91=>?_
 rw [hos]at ho91 hm91;have hv90:∃a cap,v90= .slice a os.length cap:=by
  rcases ho91.cell with⟨h1,h2,_⟩ | ⟨g,cap,h1,_⟩
  ·exact⟨none,0,by rw [h1,h2]⟩
  ·exact⟨_,cap,h1⟩
 obtain⟨av,cav,hv90⟩:=hv90;have h91:=h.ex x91;have s91:=x91.size;refine⟨av,_,cav,hv90,λx w'=>∃(r:Nat) (M':Nat->Prop),x=r/\r<=os.length/\qy b b2 n0 (60* (acc++if i=k then []else(os.take r).flatMap (E3 u i k e d p)).length) w w' (acc++if i=k then []else(os.take r).flatMap (E3 u i k e d p)) M'/\Rel b μ M w' M',λx _=>(os.length - x).toNat,⟨0,M,rfl,Ks _,by simpa using h91,Rel.refl b μ M⟩,λx Z hI=>?_⟩;obtain⟨r,M',rfl,hr,φ,I⟩:=hI;refine⟨λhlt=>?_,λhge=>?_⟩;rotate_left
 ·have hrl:r=os.length:=by simp only [JE]at hge;omega
  rw [hrl,J3]at φ;have e2:E2 u i e d p k=if i=k then []else os.flatMap (E3 u i k e d p):=by unfold E2;rw [egd,hos]
  rw [<-e2]at φ;exact hJ Z M' φ (((Rel.refl b w1 M).ex x91).trans I)
 have hrl:r< os.length:=by simp only [JD]at hlt;omega
 have hMv:∀g,v90.ownBlock=some g->¬(g=b\/M g):=λg hg e=>by
  have h1:=ho91.block g hg;have :=h.hb;exact e.elim (λe=>by omega) λhM=>by have :=(h.rs.mr g hM).2;omega
 have hM91:∀g,g< μ.heap.size->¬(g=b\/M g)->¬(g=b\/M' g):=λg h1 h2 e=>e.elim (λe=>h2 (.inl e)) λhM=>(I.2 g hM).elim (λhM=>h2 (.inr hM)) λh=>by omega
 have ho98:=ho91.kp I.1 hMv;have hm98:=OffsM.kp I.1 hDM hm91;obtain⟨g,cap,cs,hvg,χ,ζ⟩:=vV ho98 hm98 hrl;obtain⟨kk,a1,b1,vq,s1,rfl,hone⟩:=χ.any;have s98:=I.1.size;refine⟨g,0,_,cap,hvg,by omega,by omega,kk,a1,b1,vq,s1,⟨ζ 0 _ rfl _ (by omega) (by omega),ζ 1 _ rfl _ (by omega) (by omega),ζ 2 _ rfl _ (by omega) (by omega),ζ 3 _ rfl _ (by omega) (by omega),ζ 4 _ rfl _ (by omega) (by omega),trivial⟩,λH ξ hb108 hw109=>?_⟩;obtain⟨box1,box2⟩:=zt (cs:=cQ kk a1 b1 vq s1) rfl hb108 hw109;refine⟨⟨rfl,tu hone,box1⟩,λz hw110=>?_⟩;obtain⟨ι,l110,c110⟩:=box2 z hw110;have s110:=ι.size;have htk:(os.take (r+1)).flatMap (E3 u i k e d p)=(os.take r).flatMap (E3 u i k e d p)++E3 u i k e d p os[r]:=by rw [JG hrl,KV];simp
 have next:∀w',(E3 u i k e d p os[r]=[]\/i=k)->w'=z->aj ((r:Int)+1)/\(∃(r2:Nat) (M2:Nat->Prop),(r:Int)+1=r2/\r2<=os.length/\qy b b2 n0 (60* (acc++if i=k then []else(os.take r2).flatMap (E3 u i k e d p)).length) w w' (acc++if i=k then []else(os.take r2).flatMap (E3 u i k e d p)) M2/\Rel b μ M w' M2)/\((os.length:Int) - ((r:Int)+1)).toNat< ((os.length:Int) - r).toNat:=by
  intro w' he hw';subst hw';refine⟨by unfold aj;omega,⟨r+1,M',by omega,by omega,?_,I.ex ι⟩,by omega⟩;have:(if i=k then []else(os.take (r+1)).flatMap (E3 u i k e d p))=(if i=k then []else(os.take r).flatMap (E3 u i k e d p)):=by
   split
   ·rfl
   ·rename_i hik;rw [htk,he.resolve_right hik,Kb]
  rw [this];exact φ.ex ι
 have r110:=φ.ex ι;by_cases hik:k=i
 ·exact⟨λh=>absurd (J1 h) (by omega),λ _=>next z (.inr hik.symm) rfl⟩
 refine⟨λ _=>⟨kk,c110 0 (by omega),?_,?_⟩,λh=>absurd (J0 h) (by omega)⟩;rotate_left
 ·intro κ;refine next z (.inl ?_) rfl;have hne:kk≠63:=by simpa using κ
  generalize hor:os[r]=o at*;cases o with
  | tau p=>rfl
  | snd a b p=>rfl
  | rcv a x q s=>obtain⟨vr',e1,_⟩:=χ;simp only [cQ,Kw,KY]at e1;exact absurd (J4.1 (by have :=e1.1.2;have e3:(63:UInt8).toNat=63:=rfl;omega)) hne
 ·intro κ;have κ:kk=63:=by
   cases hd:decide (kk=63)with
   | true=>exact J0 hd
   | false=>rw [hd]at κ;cases κ
  subst κ;obtain⟨x,q,e1,e2⟩:∃x q,os[r]= .rcv a1 x q s1/\x=b1:=by
   generalize hor:os[r]=o at*;cases o with
   | tau p=>obtain⟨_,_,_,_,e1,_⟩:=χ;simp only [cQ,Kw,KY]at e1;exact absurd e1.1.2 (by decide)
   | snd a b p=>obtain⟨_,_,e1,_⟩:=χ;simp only [cQ,Kw,KY]at e1;exact absurd e1.1.2 (by decide)
   | rcv a x q s=>
    obtain⟨vr',e1,_⟩:=χ;simp only [cQ,Kw,KY,Value.bool.injEq,Mb,LD]at e1;exact⟨x,q,by rw [show a1=a by omega,e1.2.2.2],by omega⟩
  subst e2;have hrm:Off.rcv a1 x q s1∈offs u.ths[k]:=by rw [hos,<-e1];exact JM hrl
  rw [e1]at χ;obtain⟨vq',e3,hvq⟩:=χ;have:vq'=vq:=by simp only [cQ,Kw,Mb,LD]at e3;exact e3.symm
  subst this;have hb40':V< μ.heap.size:=by omega
  have hM40:¬(V=b\/M V):=λe=>e.elim hbb hMb
  have c40':∀j,j< 5->z.cell? ⟨V,j,none⟩=(cQ 33 e d vr s0)[j]?:=λj hj=>by
   rw [ι.cell (show V< _ by omega),JB (w:=μ) (I.1.block V hb40' hM40),x91.cell (show V< _ from hb40)];exact c40 j hj
  refine⟨a1,c110 1 (by omega),e,c40' 1 (by omega),λhne=>?_,λheq W α ψ η=>?_⟩
  ·refine next z (.inl ?_) rfl;rw [e1];have hne:(a1:Int)≠e:=by simpa using hne
   exact JV (by omega)
  ·have heq:a1=e:=by
    have:(a1:Int)=e:=by
     cases hd:decide ((a1:Int)=e)with
     | true=>exact J0 hd
     | false=>rw [hd]at heq;cases heq
    omega
   subst heq;have ς:Ex z α:=η▸Ex.alloc _ _;have s115:α.heap.size=z.heap.size+1:=by rw [η,size_alloc]
   have xx:=Ex.trans ι ς;have δ:∀g,Z.heap.size<=g->¬(g=b\/M' g):=λg hg e=>e.elim (λe=>by have :=h.hb;have :=φ.km.size;omega) λhM=>by have :=(φ.rs.mr g hM).2;omega
   refine⟨λgone w'=>w'=α/\ec (λg=>g< α.heap.size/\¬(g=b\/M' g)) α gone ((if s1 then [i]else [i,k]).map iv),⟨s1,?_,λhs=>⟨_,_,2,rfl,by omega,by omega,by omega,rfl,?_⟩,λhs=>⟨rfl,?_⟩⟩,λgone ε hJ2=>?_⟩
   ·rw [ς.cell (show H< _ from l110)];exact c110 4 (by omega)
   ·rw [hs];have:(if(2:Nat)=Int.toNat 0 then(some ⟨W,0,none⟩:Option Addr)else Option.map (λx:Addr=>x.add (Int.toNat 0* 1)) (some ⟨W,0,none⟩))=some ⟨W,0,none⟩:=by
     rw [JV (by decide),Lz,add_plain];rfl
    rw [this];refine .inr ⟨W,0,_,rfl,⟨by omega,δ W (by omega)⟩,by omega,λi' y hy=>?_⟩;cases i' with
    | zero=>simp only [Ls,J9,Lj,KS,KP]at hy;subst hy;rw [η,ψ];exact aa rfl
    | succ i=>simp at hy
   ·rw [hs];refine .inr ⟨W,0,_,rfl,⟨by omega,δ W (by omega)⟩,by omega,λi' y hy=>?_⟩
    match i',hy with
    | 0,hy=>simp only [LA,Mo,J9,Lj,KS,KP]at hy;subst hy;rw [η,ψ];exact aa rfl
    | 1,hy=>simp only [LA,Mo,J9,Lj,List.getElem?_cons_succ,KS,KP]at hy;subst hy;rw [η,ψ];exact aa rfl
    | i+2,hy=>simp at hy
   obtain⟨rfl,hgone⟩:=hJ2;have r122:=r110.ex ς;rw [JV (λe=>hik e.symm)]at r122;have hE3r:=hE3 r;have hcl:ε.cell? ⟨b,2,none⟩=some (ptr bl):=(r122.km.ce 2 (by omega)).trans hcl0;have hl:aB D ε (td u) (ptr bl):=aB.kp hl0 r122.km.kp λg hg=>(hD g hg).1
   have cc40:∀j,j< 5->ε.cell? ⟨V,j,none⟩=(cQ 33 a1 d vr s0)[j]?:=λj hj=>by rw [ς.cell (show V< _ by omega)];exact c40' j hj
   have hvr':aB D ε (td p) vr:=aB.ex (aB.kp (aB.ex hvr x91) I.1 hDM) xx;have hM40':=hM91 V hb40' hM40;refine Fx hu hn0 ok su hsz r122 hcl hl hD hi hk (λe=>hik e.symm) ho hrm (cc40 3 (by omega)) (cc40 2 (by omega)) (by omega) (λhM=>hM40' (.inr hM)) hbb hvr' (λj hj=>by rw [ς.cell (show H< _ from l110)];exact c110 j hj) (by omega) (λhM=>δ H (by omega) (.inr hM)) (λe=>δ H (by omega) (.inl e)) (aB.ex hvq xx) hgone (by rw [JJ];omega) (by
    have hnn:=bP t e0 0;have hts:=ok.size;rw [JJ];omega) λw3 M3 r3 k3 hM3=>⟨by unfold aj;omega,⟨r+1,M3,by omega,by omega,?_,(I.ex xx).trans ⟨k3,hM3⟩⟩,by show((os.length:Int) - ((r:Int)+1)).toNat< ((os.length:Int) - r).toNat;omega⟩
   rw [JV (λe=>hik e.symm),htk,e1];have e4:E3 u i k a1 d p (.rcv a1 x q s1)=[Ci u i k p (q.map (Ff (NN u) q x d)) s1]:=Ka rfl;rw [e4,<-Kg];refine r3.mono ?_;simp only [JJ,JA,JQ];omega
end
theorem DX {t:P}(ok:lZ t){w:World}{b:Nat}{D:Nat->Prop}(st:FA w D b (num t e0 0).2 t.text (td (num t e0 0).1))(hD:∀g,D g->g≠b/\g< w.heap.size){R:Value->Bool->World->Prop}
  (hR1:Cm (num t e0 0).1=none->∀w',Kr b w w'->R (.slice none 0 0) false w') (hR2:∀l,Cm (num t e0 0).1=some l->∀v w',Kr b w w'->Strs w' v l->(∀g,v.ownBlock=some g->w.heap.size<=g)->R v true w'):Calls Tryz.prog 136 #[ptr b] w (an [.v,.b] R):=by
 have su:=ok.su;have hszt:=ok.size;have hsh:=(kA su.ae).2.2;generalize hu:(num t e0 0).1=u at*;have hsz:u.size<=60:=by omega
 refine ir (ptr b) w R ?_;intro b2 w3 hb2 κ;have x3:Ex w w3:=κ▸Ex.alloc _ _;have s3:w3.heap.size=w.heap.size+1:=by rw [κ,size_alloc]
 have hb:=st.mc.lt;obtain⟨vl,hcl0,hl0⟩:=st.l;obtain⟨bl,vo,vt,ts,rfl,k2,k3,k4,k5,k6,k7,k8,k9⟩:=AX su hl0;obtain⟨at_,capt,hvt⟩:=k7.slice;have r3:qy b b2 (num t e0 0).2 (60* ([]:List U).length) w w3 [] (λg=>g=b2):=by
  refine⟨Km.ex x3 hb,⟨by omega,rfl,λg e=>by omega,λj=>by rw [κ,hb2];exact aO _ _ _ _,by rw [κ,hb2];exact aa rfl,.slice none 0 0,by rw [κ,hb2];exact aa rfl,Own.nil _ _,λg V=>by cases V⟩,⟨_,st.mc.ex x3,JL _,by simp⟩,hb⟩
 have cb2:∀{w':World},Km b w w'->w'.cell? ⟨b,2,none⟩=some (ptr bl):=λk=>(k.ce 2 (by omega)).trans hcl0
 have cbl:∀{w':World},Km b w w'->∀{j:Nat} {x:Value},w.cell? ⟨bl,j,none⟩=some x->w'.cell? ⟨bl,j,none⟩=some x:=λk j x hx=>by rw [JB (w:=w) (k.kp.block bl k3 (hD bl k2).1)];exact hx
 have hlw:∀{w':World},Km b w w'->aB D w' (td u) (ptr bl):=λk=>aB.kp hl0 k.kp λg V=>(hD g V).1
 have μ:∀{w':World},Km b w w'->∀i (hi:i< ts.length),∃bt ot I,vt= .slice (some ⟨bt,ot,none⟩) ts.length I/\w'.cell? ⟨bt,ot+i,none⟩=some ts[i]:=λk i hi=>by
  rcases k7 with⟨_,h0⟩ | ⟨bt,ot,I,e,hbD,hb',z⟩
  ·rw [h0]at hi;simp at hi
  ·exact⟨bt,ot,I,e,by rw [JB (w:=w) (k.kp.block bt hb' (hD bt hbD).1)];exact z i _ (JC hi)⟩
 have tth:∀{w':World},Km b w w'->∀i (h:i< u.ths.length) (h':i< ts.length),af D w' (tl [u.ths[i]]) [ts[i]]:=λk i h h'=>af.kp k.kp (λg V=>(hD g V).1) (k9 i h h')
 have hthl:u.ths.length<=60:=by
  have:∀u:U,u.ths.length<=u.size:=by
   intro u
   induction u with
   | par p q _ ih=>simp only [T.ths,JA,T.size];omega
   | res x p ih=>simp only [T.ths,T.size];omega
   | _=>simp [T.ths,T.size]
  have :=this u;omega
 have hol:∀i (h:i< u.ths.length),(offs u.ths[i]).length<=60:=λi h=>by
  have h1:=fF u.ths[i];have h2:=eg u _ (JM h);omega
 have hE2:∀i c d p k,k< u.ths.length->(E2 u i c d p k).length<=60:=λi c d p k hk=>by
  unfold E2;split
  ·simp
  ·rw [cN hk];have h1:=ik (f:=E3 u i k c d p) (c:=1) (l:=offs u.ths[k]) λx _=>by
    cases x with
    | rcv e' x q s=>unfold E3;simp only;split<;>simp
    | _=>simp [E3]
   have :=hol k hk;omega
 have hE2s:∀i c d p k,k<=u.ths.length->((List.range k).flatMap (E2 u i c d p)).length<=3600:=λi c d p k hk=>by
  have h1:=ik (f:=E2 u i c d p) (c:=60) (l:=List.range k) λx hx=>hE2 i c d p x (by have :=K2.1 hx;omega)
  rw [LO]at h1;omega
 have hE1:∀i o,(E1 u i o).length<=3600:=λi o=>by
  cases o with
  | tau p=>simp [E1]
  | rcv=>simp [E1]
  | snd c d p=>exact hE2s i c d p _ (JL _)
 have hE1s:∀i j (h:i< u.ths.length),(((offs u.ths[i]).take j).flatMap (E1 u i)).length<=216000:=λi j h=>by
  have h1:=ik (f:=E1 u i) (c:=3600) (l:=(offs u.ths[i]).take j) λx _=>hE1 i x
  rw [Kf]at h1;have :=hol i h;omega
 have hE0:∀i,i< u.ths.length->(E0 u i).length<=216000:=λi h=>by
  have :=hE1s i (offs u.ths[i]).length h;rw [J3]at this;unfold E0;rw [cN h];exact this
 have hE0s:∀i,i<=u.ths.length->((List.range i).flatMap (E0 u)).length<=12960000:=λi hi=>by
  have h1:=ik (f:=E0 u) (c:=216000) (l:=List.range i) λx hx=>hE0 x (by have :=K2.1 hx;omega)
  rw [LO]at h1;omega
 refine⟨b,0,rfl,ptr bl,cb2 r3.km,bl,0,rfl,vt,cbl r3.km k5,at_,_,capt,hvt,λx w'=>∃(i:Nat) (M:Nat->Prop),x=i/\i<=ts.length/\qy b b2 (num t e0 0).2 (60* ((List.range i).flatMap (E0 u)).length) w w' ((List.range i).flatMap (E0 u)) M,λx _=>(ts.length - x).toNat,⟨0,_,rfl,Ks _,by simpa using r3⟩,λx w16 hI=>?_⟩;obtain⟨i,M,rfl,hi,G⟩:=hI;refine⟨λhlt=>?_,λhge=>?_⟩;rotate_left
 ·have ψ:i=u.ths.length:=by simp only [JE]at hge;omega
  rw [ψ]at G;have hlen:=hE0s u.ths.length (JL _);have e:(List.range u.ths.length).flatMap (E0 u)=gN u:=rfl;rw [e]at G hlen;have hol2:(outs (gN u)).length=(gN u).length:=by unfold outs;simp
  refine Hj G.rs (by omega) (λβ=>hR1 ?_ w16 G.km.kp) λβ v' w' k s hv=>hR2 _ ?_ v' w' ?_ s λg V=>(G.rs.mr g (hv g V)).1
  ·unfold Cm;rw [JV];intro h;rw [h]at β;cases β
  ·unfold Cm;rw [Ka];cases h:jb (gN u)with
   | true=>rfl
   | false=>rw [h]at β;cases β
  ·exact Kp.trans G.km.kp k λg V hM=>by have :=(G.rs.mr g hM).1;omega
 have ψ:i< ts.length:=by simp only [JD]at hlt;omega
 have W:i< u.ths.length:=by omega
 obtain⟨bt,ot,I,hvt',hct⟩:=μ G.km i ψ;have ν:=su.th _ (JM W);have hsi:=eg u _ (JM W);have s16:=G.km.size;refine⟨bt,ot,_,I,hvt',by omega,by omega,ts[i],by rw [JI,Kc];exact hct,rM ν.1 ν.2.1 ν.2.2 (su.smp _ (JM W)) (by omega) (λg V=>by have :=(hD g V).2;omega) (tth G.km i W ψ) λv22 w23 xs x23 ξ hm23=>?_⟩;have ek:(List.range (i+1)).flatMap (E0 u)=(List.range i).flatMap (E0 u)++E0 u i:=by rw [LR,KV];simp
 have eE0:E0 u i=(offs u.ths[i]).flatMap (E1 u i):=by unfold E0;rw [cN W]
 have holi:=hol i W;have hE1i:=λj=>hE1s i j W
 have hofm:∀o∈offs u.ths[i],o∈offs u.ths[i]:=λ _ h=>h
 generalize hos:offs u.ths[i]=os at*;have ο:∃a cap,v22= .slice a os.length cap:=by
  rcases ξ.cell with⟨h1,h2,_⟩ | ⟨g,cap,h1,_⟩
  ·exact⟨none,0,by rw [h1,h2]⟩
  ·exact⟨_,cap,h1⟩
 obtain⟨av,cav,ο⟩:=ο;have r23:=G.ex x23;have s23:=x23.size;have hacci:=hE0s i (by omega);generalize hA:(List.range i).flatMap (E0 u)=A at*;refine⟨av,_,cav,ο,λx w'=>∃(j:Nat) (M':Nat->Prop),x=j/\j<=os.length/\qy b b2 (num t e0 0).2 (60* (A++(os.take j).flatMap (E1 u i)).length) w w' (A++(os.take j).flatMap (E1 u i)) M'/\Rel b w23 M w' M',λx _=>(os.length - x).toNat,⟨0,M,rfl,Ks _,by simpa using r23,Rel.refl b w23 M⟩,λx w30 hI=>?_⟩;obtain⟨j,M',rfl,hj,θ,Z⟩:=hI;refine⟨λhlt2=>?_,λhge2=>?_⟩;rotate_left
 ·have ς:j=os.length:=by simp only [JE]at hge2;omega
  rw [ς,J3,<-eE0,<-ek]at θ;exact⟨by unfold aj;omega,⟨i+1,M',by omega,by omega,θ⟩,by show((ts.length:Int) - ((i:Int)+1)).toNat< ((ts.length:Int) - i).toNat;omega⟩
 have ς:j< os.length:=by simp only [JD]at hlt2;omega
 have hDM:∀g,D g->¬(g=b\/M g):=λg V e=>e.elim (hD g V).1 λhM=>by have :=(hD g V).2;have :=(G.rs.mr g hM).1;omega
 have hMv:∀g,v22.ownBlock=some g->¬(g=b\/M g):=λg V e=>by
  have h1:=ξ.block g V;exact e.elim (λe=>by omega) λhM=>by have :=(G.rs.mr g hM).2;omega
 have ho30:=ξ.kp Z.1 hMv;have hm30:=OffsM.kp Z.1 hDM hm23;obtain⟨g,cap,cs,hvg,J,z⟩:=vV ho30 hm30 ς;obtain⟨kk,a1,b1,vr,s1,rfl,hone⟩:=J.any;have s30:=Z.1.size;refine⟨g,0,_,cap,hvg,by omega,by omega,kk,a1,b1,vr,s1,⟨z 0 _ rfl _ (by omega) (by omega),z 1 _ rfl _ (by omega) (by omega),z 2 _ rfl _ (by omega) (by omega),z 3 _ rfl _ (by omega) (by omega),z 4 _ rfl _ (by omega) (by omega),trivial⟩,λω w41 hb40 hw41=>?_⟩;obtain⟨box1,box2⟩:=zt (cs:=cQ kk a1 b1 vr s1) rfl hb40 hw41;refine⟨⟨rfl,tu hone,box1⟩,λζ hw42=>?_⟩;obtain⟨υ,l42,γ⟩:=box2 ζ hw42;have s42:=υ.size;have η:=θ.ex υ;have htk:(os.take (j+1)).flatMap (E1 u i)=(os.take j).flatMap (E1 u i)++E1 u i os[j]:=by rw [JG ς,KV];simp
 have hE1j:=hE1i j;have nb40:∀g,w30.heap.size<=g->¬(g=b\/M' g):=λg V e=>e.elim (λe=>by have :=θ.km.size;omega) λhM=>by have :=(θ.rs.mr g hM).2;omega
 have δ:=nb40 ω (by omega);have α:os[j]∈os:=JM ς;have rel42:=Z.ex υ;have next:∀w' M2,qy b b2 (num t e0 0).2 (60* (A++(os.take j).flatMap (E1 u i)++E1 u i os[j]).length) w w' (A++(os.take j).flatMap (E1 u i)++E1 u i os[j]) M2->Rel b ζ M' w' M2->aj ((j:Int)+1)/\(∃(j2:Nat) (M3:Nat->Prop),(j:Int)+1=j2/\j2<=os.length/\qy b b2 (num t e0 0).2 (60* (A++(os.take j2).flatMap (E1 u i)).length) w w' (A++(os.take j2).flatMap (E1 u i)) M3/\Rel b w23 M w' M3)/\((os.length:Int) - ((j:Int)+1)).toNat< ((os.length:Int) - j).toNat:=by
  intro w' M2 r rel;refine⟨by unfold aj;omega,⟨j+1,M2,by omega,by omega,?_,rel42.trans rel⟩,by omega⟩;rw [htk,<-Kg];exact r
 have hvr:∀p,(os[j]= .tau p\/(∃c d,os[j]= .snd c d p))->aB D ζ (td p) vr:=λp hp=>by
  rcases hp with hp | ⟨c,d,hp⟩
  ·rw [hp]at J;obtain⟨_,_,vr',_,e1,h1⟩:=J;simp only [cQ,Kw]at e1;rw [e1.2.2.2.1];exact aB.ex h1 υ
  ·rw [hp]at J;obtain⟨vr',_,e1,h1⟩:=J;simp only [cQ,Kw]at e1;rw [e1.2.2.2.1];exact aB.ex h1 υ
 cases ε:os[j]with
 | tau p=>
  have hk:kk=126:=by
   rw [ε]at J;obtain⟨_,_,_,_,e1,_⟩:=J;simp only [cQ,Kw,KY]at e1;exact J4.1 (by have e2:=e1.1.2;have e3:(126:UInt8).toNat=126:=rfl;omega)
  subst hk;rw [ε]at next α;refine⟨λw'=>∃M2,qy b b2 (num t e0 0).2 (60* (A++(os.take j).flatMap (E1 u i)++E1 u i (.tau p)).length) w w' (A++(os.take j).flatMap (E1 u i)++E1 u i (.tau p)) M2/\Rel b ζ M' w' M2,⟨126,γ 0 (by omega),cS (by decide) ?_⟩,λι hJ=>?_⟩
  ·refine Hv ok su hsz η (cb2 η.km) (hlw η.km) hD W (by rw [hos];exact α) (γ 3 (by omega)) l42 (λhM=>δ (.inr hM)) (hvr p (.inl ε)) (by rw [JJ];omega) λw3 M3 r3 k3 hM3=>⟨M3,?_,⟨Kp.mono (λ _ h=> .inr h) k3,hM3⟩⟩
   exact r3.mono (by simp only [JJ];omega)
  ·obtain⟨M2,r70,φ⟩:=hJ;refine⟨126,?_,λ _=>next ι M2 r70 φ,λh=>absurd h (by decide)⟩;rw [JB (w:=ζ) (φ.1.block ω l42 δ)];exact γ 0 (by omega)
 | rcv a x q s=>
  have hk:kk=63:=by
   rw [ε]at J;obtain⟨_,e1,_⟩:=J;simp only [cQ,Kw,KY]at e1;exact J4.1 (by have e2:=e1.1.2;have e3:(63:UInt8).toNat=63:=rfl;omega)
  subst hk;rw [ε]at next;refine⟨λw'=>w'=ζ,⟨63,γ 0 (by omega),aS (by decide) rfl⟩,λι hJ=>?_⟩;subst hJ;refine⟨63,γ 0 (by omega),λ _=>next ι M' ?_ (Rel.refl _ _ _),λh=>absurd h (by decide)⟩;have e:E1 u i (.rcv a x q s)=[]:=rfl;rw [e,Kb];exact η
 | snd c d p=>
  have hk:kk=33/\a1=c/\b1=d:=by
   rw [ε]at J;obtain⟨_,_,e1,_⟩:=J;simp only [cQ,Kw,KY]at e1;have e3:(33:UInt8).toNat=33:=rfl;exact⟨J4.1 (by have e2:=e1.1.2;omega),by have :=e1.2.1.2;omega,by have :=e1.2.2.1.2;omega⟩
  obtain⟨rfl,rfl,rfl⟩:=hk;rw [ε]at next α;refine⟨λw'=>w'=ζ,⟨33,γ 0 (by omega),aS (by decide) rfl⟩,λι hJ=>?_⟩;subst hJ;refine⟨33,γ 0 (by omega),λh=>absurd h (by decide),λ _=>?_⟩;refine⟨b,0,rfl,ptr bl,cb2 η.km,bl,0,rfl,vt,cbl η.km k5,at_,_,capt,hvt,λx w'=>∃(k:Nat) (M2:Nat->Prop),x=k/\k<=ts.length/\qy b b2 (num t e0 0).2 (60* (A++(os.take j).flatMap (E1 u i)++(List.range k).flatMap (E2 u i a1 b1 p)).length) w w' (A++(os.take j).flatMap (E1 u i)++(List.range k).flatMap (E2 u i a1 b1 p)) M2/\Rel b ι M' w' M2,λx _=>(ts.length - x).toNat,⟨0,M',rfl,Ks _,by simpa using η,Rel.refl _ _ _⟩,λx w84 hI=>?_⟩;obtain⟨k,M2,rfl,hk,χ,H⟩:=hI;refine⟨λhlt3=>?_,λhge3=>?_⟩;rotate_left
  ·have hkl:k=u.ths.length:=by simp only [JE]at hge3;omega
   rw [hkl]at χ;exact next w84 M2 χ H
  have hkl:k< ts.length:=by simp only [JD]at hlt3;omega
  have hku:k< u.ths.length:=by omega
  obtain⟨bt2,ot2,capt2,hvt2,hct2⟩:=μ χ.km k hkl;have hE2k:=hE2s i a1 b1 p k (by omega);have s84:=H.1.size;have hDM':∀g,D g->¬(g=b\/M' g):=λg V e=>e.elim (hD g V).1 λhM=>by have :=(hD g V).2;have :=(θ.rs.mr g hM).1;omega
  refine⟨bt2,ot2,_,capt2,hvt2,by omega,by omega,ts[k],by rw [JI,Kc];exact hct2,?_⟩;refine G9 (D:=D) hu.symm rfl ok su hsz hcl0 hl0 hD W hku (by rw [hos];exact α) χ (by simp only [JJ];omega) (λjj hjj=>by rw [JB (w:=ι) (H.1.block ω l42 δ)];exact γ jj hjj) (by omega) (λhM=>(H.2 ω hM).elim (λh=>δ (.inr h)) λh=>by omega) (λe=>δ (.inl e)) (aB.kp (hvr p (.inr ⟨_,_,ε⟩)) H.1 hDM') (tth χ.km k hku hkl) λw3 M3 r3 rel3=>⟨by unfold aj;omega,⟨k+1,M3,by omega,by omega,?_,H.trans rel3⟩,by show((ts.length:Int) - ((k:Int)+1)).toNat< ((ts.length:Int) - k).toNat;omega⟩
  have e5:(List.range (k+1)).flatMap (E2 u i a1 b1 p)=(List.range k).flatMap (E2 u i a1 b1 p)++E2 u i a1 b1 p k:=by rw [LR,KV];simp
  rw [e5,<-Kg];exact r3
end Go.Proofs.YtdecokaadekjnaaGreat
namespace Go.Proofs.YtdecokaadekjnaaGreat
open Go Go.RowKit T Classical
def St (s:Tx):Prop:=∃t,lZ t/\t.text=s
theorem lZ.uniq {t z:P}(a:lZ t)(b:lZ z)(h:t.text=z.text):t=z:=eu a.al.wf b.al.wf h
noncomputable def ue (s:Tx):Option (List Tx):=if h:St s then Cm (num h.choose e0 0).1 else none
theorem DJ {t:P}(ok:lZ t):ue t.text=Cm (num t e0 0).1:=by
 have h:St t.text:=⟨t,ok,rfl⟩
 unfold ue;rw [dif_pos h,(h.choose_spec.1).uniq ok h.choose_spec.2]
theorem zc {u:U}(h:Nu u)(z:u.smp=true){s:Tx}(e:jY u=some s):St s:=by
 obtain⟨t,v,n⟩:=Cw h e;exact⟨t,n.Jy h z,n.text⟩
theorem CW (w:World){s:Tx}{l:List Tx}(h:ue s=some l):∀x∈l,St x:=by
 unfold ue at h;split at h
 ·rename_i z;have ok:=z.choose_spec.1;generalize z.choose=t at ok h;have su:=ok.su;generalize (num t e0 0).1=u at su h;unfold Cm at h;split at h
  ·rename_i J;cases h;intro x G;rw [G6,(aN _).mem_iff]at G;obtain⟨v,H,rfl⟩:=Kk.1 G;obtain⟨V,W⟩:=CD w ok su v H;have I:=Lp.1 J v H;cases e:jY v with
   | none=>rw [e]at I;cases I
   | some y=>exact zc V W e
  ·cases h
 ·cases h
def vk (s:Tx):Prop:=∃t:P,t.Al (λc=>lt c=true)/\t.text=s/\cZ s/\t.smp=true
noncomputable def cy (s:Tx):Option Tx:=if h:vk s then jY (num h.choose e0 0).1 else none
theorem pI {t:P}(al:t.Al λc=>lt c=true)(g:cZ t.text)(z:t.smp=true):cy t.text=jY (num t e0 0).1:=by
 have h:vk t.text:=⟨t,al,rfl,g,z⟩
 unfold cy;rw [dif_pos h,eu h.choose_spec.1.wf al.wf h.choose_spec.2.1]
theorem gY {s:Tx}(h:¬vk s):cy s=none:=by unfold cy;rw [dif_neg h]
theorem ux {s n:Tx}(h:cy s=some n):St n:=by
 unfold cy at h;split at h
 ·rename_i z;exact zc (ku z.choose_spec.1) ((r9 (kL z.choose_spec.1)).symm.trans z.choose_spec.2.2.2) h
 ·cases h
theorem lZ.good {t:P}(ok:lZ t):cZ t.text:=⟨ok.len,t,ok.al,rfl,ok.size⟩
theorem BL {t:P}(ok:lZ t):cy t.text=some t.text:=(pI ok.al ok.good ok.smp).trans ok.nf
def ke (a:List Tx)(s:Tx):List Tx:=if s∈a then a else a++[s]
def bX (a l:List Tx):List Tx:=l.foldl ke a
theorem lN {a l:List Tx}{i:Nat}(h:i< l.length):bX a (l.take (i+1))=ke (bX a (l.take i)) l[i]:=by
 unfold bX;rw [JG h,List.foldl_append];rfl
theorem CQ {a:List Tx}{s:Tx}:a<+:ke a s:=by
 unfold ke;split
 ·exact List.prefix_refl _
 ·exact List.prefix_append _ _
theorem oA:∀{l a:List Tx},a<+:bX a l
 | [],_=>List.prefix_refl _
 | s::l,a=>CQ.trans (oA (l:=l) (a:=ke a s))
theorem lF:∀{l a:List Tx} {x:Tx},x∈bX a l↔x∈a\/x∈l
 | [],_,_=>by simp [bX]
 | s::l,a,x=>by
  have e:bX a (s::l)=bX (ke a s) l:=rfl;rw [e,lF (l:=l)];unfold ke;split
  ·rename_i h;constructor
   ·rintro(z | z)
    ·exact .inl z
    ·exact .inr (JR _ z)
   ·rintro(z | z)
    ·exact .inl z
    ·rcases JX.1 z with rfl | z
     ·exact .inl h
     ·exact .inr z
  ·simp only [JN,JX,LZ,Mz];exact Mp
theorem rQ:∀(l a:List Tx),(bX a l).length<=a.length+l.length
 | [],_=>JL _
 | s::l,a=>by
  have e:bX a (s::l)=bX (ke a s) l:=rfl;have h:=rQ l (ke a s);rw [e];have:(ke a s).length<=a.length+1:=by
   unfold ke;split<;>simp
  simp only [JA];omega
noncomputable def bfs:Nat->List Tx->Nat->Option (List Tx)
 | 0,_,_=>none
 | f+1,all,i=>if h:i< all.length then(match ue all[i]with
   | none=>none
   | some l=>if 60< (bX all l).length then none else bfs f (bX all l) (i+1))else some all
noncomputable def dB (s:Tx):Option (List Tx):=(cy s).bind λn=>bfs 62 [n] 0
theorem AF {all:List Tx}{i:Nat}(G:all.length<=60)(h:¬i< all.length)(H:i<=all.length):bfs (62 - i) all i=some all:=by
 obtain⟨k,z⟩:∃k,62 - i=k+1:=⟨61 - i,by omega⟩
 rw [z];unfold bfs;rw [dif_neg h]
theorem xY {all:List Tx}{i:Nat}(H:all.length<=60)(h:i< all.length)(z:ue all[i]=none):bfs (62 - i) all i=none:=by
 obtain⟨k,G⟩:∃k,62 - i=k+1:=⟨61 - i,by omega⟩
 rw [G];unfold bfs;rw [dif_pos h,z]
theorem AI {all l:List Tx}{i:Nat}(H:all.length<=60)(h:i< all.length)(z:ue all[i]=some l)(hb:60< (bX all l).length):bfs (62 - i) all i=none:=by
 obtain⟨k,G⟩:∃k,62 - i=k+1:=⟨61 - i,by omega⟩
 rw [G];unfold bfs;rw [dif_pos h,z];simp only;rw [Ka hb]
theorem wY {all l:List Tx}{i:Nat}(H:all.length<=60)(h:i< all.length)(z:ue all[i]=some l)(hb:¬60< (bX all l).length):bfs (62 - i) all i=bfs (62 - (i+1)) (bX all l) (i+1):=by
 have G:62 - i=(62 - (i+1))+1:=by omega
 rw [G];conv=>lhs;unfold bfs
 rw [dif_pos h,z];simp only;rw [JV hb]
def Off.over {A:Type}(k:UInt8):Off A->Option A
 | .tau _=>none
 | .snd a _ _=>if k=33 then some a else none
 | .rcv a _ _ _=>if k=63 then some a else none
def IK (k:UInt8)(t:P)(c:UInt8):Prop:=c∉t.frL/\∃p∈t.ths,∃o∈offs p,o.over k=some c
noncomputable def Bl (k:UInt8)(t:P):Tx:=nR.filter λc=>decide (IK k t c)
noncomputable def wP (k:UInt8)(s:Tx):Tx:=if h:St s then Bl k h.choose else []
theorem AU {k:UInt8}{t:P}(ok:lZ t):wP k t.text=Bl k t:=by
 have h:St t.text:=⟨t,ok,rfl⟩
 unfold wP;rw [dif_pos h,(h.choose_spec.1).uniq ok h.choose_spec.2]
theorem rj {c:UInt8}:c∈nR↔lt c=true:=by
 refine⟨Er,λh=>?_⟩;have :=bc h;refine Kk.2 ⟨c.toNat - 97,K2.2 (by omega),J4.1 ?_⟩;rw [KJ];omega
theorem nZ {A:Type}{c:Prop}[Decidable c]{x a:A}(h:(if c then some x else none)=some a):x=a:=by
 by_cases z:c
 ·rw [Ka z]at h;exact Kt h
 ·rw [JV z]at h;cases h
theorem qY {A:Type}{k:UInt8}{o:Off A}{a:A}(h:o.over k=some a):o.tm.Fr a:=by
 cases o with
 | tau p=>cases h
 | snd c b p=>exact .inl (nZ (c:=k=33) h).symm
 | rcv c x p s=>exact .inl (nZ (c:=k=63) h).symm
theorem Bb {A B:Type}[DecidableEq A][DecidableEq B]{ρ:A->Nat}{σ:B->Nat}{k:UInt8}{o:Off A}{r:Off B}(h:qz ρ σ o r):(o.over k=none/\r.over k=none)\/∃a b,o.over k=some a/\r.over k=some b/\ρ a=σ b:=by
 cases o<;>cases r<;>try exact h.elim
 ·exact .inl ⟨rfl,rfl⟩
 ·unfold Off.over;by_cases e:k=33
  ·right;exact⟨_,_,Ka e,Ka e,h.1⟩
  ·left;exact⟨JV e,JV e⟩
 ·unfold Off.over;by_cases e:k=63
  ·right;exact⟨_,_,Ka e,Ka e,h.1⟩
  ·left;exact⟨JV e,JV e⟩
theorem GN {t:P}{u:U}(su:SU t u){k:UInt8}{c:UInt8}:IK k t c↔∃z,z∉u.frL/\z< 26/\c=ρ0 z/\∃q∈u.ths,∃o∈offs q,o.over k=some z:=by
 have hl:=su.two.len;constructor
 ·rintro⟨hc,p,hp,o,ho,e⟩
  obtain⟨i,Z,rfl⟩:=KA.1 hp;have H:i< u.ths.length:=by omega
  obtain⟨r,hr,I⟩:=(jo (su.two.get Z H)).Hq ho;rcases Bb (k:=k) I with⟨J,_⟩ | ⟨a,b,J,W,G⟩
  ·rw [J]at e;cases e
  ·rw [J]at e;cases e;have hm:=JM H;obtain⟨sub,_⟩:=aW (su.smp _ hm) _ hr;have V:∃q∈u.ths,q.Fr b:=⟨_,hm,sub.fr b (qY W)⟩
   have G:c=asg u.frL t.frL ρ0 b:=J4.1 G;by_cases hb:b∈u.frL
   ·exact absurd (G▸e9 u.frL t.frL ρ0 b hb su.len) hc
   ·rw [bN _ _ _ _ hb]at G;have hz:=(su.free b V).resolve_left hb;exact⟨b,hb,hz.1,G,_,hm,r,hr,W⟩
 ·rintro⟨z,hz,β,rfl,q,hq,r,hr,e⟩
  obtain⟨i,H,rfl⟩:=KA.1 hq;have Z:i< t.ths.length:=by omega
  obtain⟨o,ho,I⟩:=(jo (su.two.get Z H)).BF hr;rcases Bb (k:=k) I with⟨_,J⟩ | ⟨a,b,J,W,G⟩
  ·rw [J]at e;cases e
  ·rw [W]at e;cases e;obtain⟨sub,_⟩:=aW (su.smp _ hq) _ hr;have V:∃q∈u.ths,q.Fr z:=⟨_,hq,sub.fr z (qY W)⟩
   have G:a=asg u.frL t.frL ρ0 z:=J4.1 G;rw [bN _ _ _ _ hz]at G;have α:=(su.free z V).resolve_left hz;exact⟨α.2,_,JM Z,o,ho,by rw [J,G]⟩
theorem Cv {t:P}{u:U}(su:SU t u){k c:UInt8}(h:IK k t c):lt c=true:=by
 obtain⟨z,_,G,rfl,_⟩:=(GN su).1 h;exact AJ G
theorem Ax {t:P}{u:U}(su:SU t u){k c:UInt8}:c∈Bl k t↔IK k t c:=by
 unfold Bl;rw [L8,JD,rj];exact⟨λh=>h.2,λh=>⟨Cv su h,h⟩⟩
theorem mY:nR.Pairwise (· < ·):=by
 unfold nR;decide
theorem FE (k:UInt8)(t:P):(Bl k t).Pairwise (· < ·):=mY.filter _
theorem zh:∀{a b:Tx},a.Pairwise (· < ·)->b.Pairwise (· < ·)->(∀c,c∈a↔c∈b)->a=b
 | [],[],_,_,_=>rfl
 | [],y::b,_,_,h=>by have :=(h y).2 (by simp);cases this
 | x::a,[],_,_,h=>by have :=(h x).1 (by simp);cases this
 | x::a,y::b,ha,hb,h=>by
  obtain⟨I,V⟩:=LJ.1 ha;obtain⟨J,h4⟩:=LJ.1 hb;have G:x=y:=by
   rcases JX.1 ((h x).1 (by simp))with e | e
   ·exact e
   ·rcases JX.1 ((h y).2 (by simp))with H | H
    ·exact H.symm
    ·exact absurd (UInt8.lt_trans (I y H) (J x e)) (Mq _)
  subst G;rw [zh V h4 λc=>?_];have :=h c;simp only [JX]at this;constructor
  ·intro z;rcases this.1 (.inr z)with rfl | e
   ·exact absurd (I _ z) (Mq _)
   ·exact e
  ·intro z;rcases this.2 (.inr z)with rfl | e
   ·exact absurd (J _ z) (Mq _)
   ·exact e
def dW (s:Tx):Prop:=119∈wP 33 s
noncomputable def j9 (p q:Tx):Option (List Tx):=if vk p/\vk q then dB ([40]++p++[38]++q++[41])else none
theorem zC {s:Tx}{w:World}{R:Value->Bool->World->Prop}(H:∀v w',Ex w w'->R v (decide (vk s)) w'):
  Calls Tryz.prog 67 #[.string (ab s)] w (an [.v,.b] R):=by
 refine vY λv q w' x I J=>?_
 have:q=decide (vk s):=by
  cases q with
  | true=>
   obtain⟨z,t,h4,h5,G,_⟩:=I rfl;exact(KH ⟨t,h4,h5.symm,z,G⟩).symm
  | false=>
   refine(KI ?_).symm
   rintro⟨t,h4,h5,z,G⟩
   have :=J rfl t z h4 h5.symm;rw [G]at this;cases this
 rw [this];exact H v w' x
theorem BR {s:Tx}{w:World}{R:Value->Bool->World->Prop}(H:cy s=none->∀w',Ex w w'->R (.pointer none) false w')
  (α:∀t:P,lZ t->cy s=some t.text->∀b w',Ex w w'->w.heap.size<=b->FA w' (λg=>w.heap.size<=g/\g≠b/\g< w'.heap.size) b (num t e0 0).2 t.text (td (num t e0 0).1)->R (ptr b) true w'):
  Calls Tryz.prog 135 #[.string (ab s)] w (an [.v,.b] R):=by
 refine qH s w R ?_;refine zq λv q w4 x4 h1 h2=>⟨λI=>?_,λI=>?_⟩
 ·have I:q=true:=by simpa using I
  obtain⟨z,t,V,e,W⟩:=h1 I;have δ:t.size<=60:=((nD V).1 (e▸z)).2;refine ye W.bound (λg z=>z.2) λw6 x6=>⟨λJ=>?_,λJ=>?_⟩
  ·refine H (gY ?_) w6 (Ex.trans x4 x6)
   rintro⟨t',h4,h5,_,h6⟩
   have :=eu h4.wf V.wf (h5.trans e);subst this;rw [h6]at J;cases J
  ·have J:t.smp=true:=by simpa using J
   have Z:=aI.kp (Kp.ah x6 λ _=>False) (λ _ _ h=>h) W.bound;have he:=pI V (e▸z) J;rw [<-e]at he;refine wk Z (λg z=>by have :=z.2;have :=x6.size;omega) V (by omega) λw9 x9=>?_
   have G:=Ex.trans x4 (Ex.trans x6 x9);cases hn:jY (num t e0 0).1 with
   | none=>exact⟨(λs h=>by cases h),λ _=>⟨λ _=>H (he.trans hn) w9 G,(λh=>by cases h)⟩⟩
   | some n=>
    refine⟨λs' h=>?_,(λh=>by cases h)⟩;cases h;refine⟨(λh=>by cases h),λ _=>?_⟩;obtain⟨t',ok,rfl⟩:=zc (ku V) ((r9 (kL V)).symm.trans J) hn;have γ:=ok.size;have β:=ok.len;refine zi ok.al (by omega) (by omega) λb w' x hb st=>α t' ok (he.trans hn) b w' (Ex.trans G x) (by have :=G.size;omega) ?_
    obtain⟨v,h1,h2⟩:=st.l;exact⟨st.mc,st.tx,v,h1,h2.sub λg _ z=>⟨by have :=G.size;have :=z.1;omega,z.2⟩⟩
 ·have I:q=false:=by simpa using I
  exact H (gY fun⟨t,_,_,z,_⟩=>h2 I z) w4 x4
theorem Ar:qG 0 λ _=>false:=λc _=>by simp
theorem Bi {x:UInt32}{tk:Tk}(hx:qG x tk){w:World}{R:ay->World->Prop}(hR:R (nR.filter tk) w):
  Calls Tryz.prog 82 #[.int .u32 x.toNat] w (an [.s] R):=by
 refine qQ x w R ?_;have hl:nR.length=26:=by simp [nR]
 refine⟨λout c w'=>w'=w/\97<=c.toNat/\c.toNat<=123/\out=nR.filter λd=>tk d&&decide (d< c),λ _ c _=>123 - c.toNat,⟨rfl,by decide,by decide,?_⟩,λout c w' hI=>?_⟩
 ·refine(List.filter_eq_nil_iff.2 λd hd h=>?_).symm;have :=bc (rj.1 hd);simp only [JF,JD,Ko]at h;have V:d.toNat< 97:=h.2;omega
 ·obtain⟨rfl,z,h4,rfl⟩:=hI;refine⟨λG=>yx ?_,λG=>?_⟩
  ·simp only [JD,JZ]at G;have H:c.toNat<=122:=G;have I:lt c=true:=nU ⟨z,H⟩;have :=hx c I;have e1:(c+1).toNat=c.toNat+1:=by rw [Mn];show(c.toNat+1) % 256=_;omega
   have hle:(nR.filter λd=>tk d&&decide (d< c)).length<=26:=hl▸LG _ _;have hd:∀d:UInt8,d< c+1↔d< c\/d=c:=λd=>by
    rw [Ko,Ko,e1,<-J4];omega
   refine⟨λhe=>?_,λhe=>?_⟩
   ·have W:tk c=true:=by
     rw [Lu]at he;rw [he]at this;simpa using this.symm
    have e2:UInt8.ofNat (Int.toNat (c.toNat:Int))=c:=by rw [JI];exact UInt8.ofNat_toNat
    refine⟨⟨by omega,by omega⟩,by simp only [JA,JQ];omega,⟨rfl,by omega,by omega,?_⟩,by show 123 - (c+1).toNat< 123 - c.toNat;omega⟩;rw [e2];refine zh ?_ (mY.filter _) λd=>?_
    ·refine MA.2 ⟨mY.filter _,List.pairwise_singleton _ _,λa ha b hb=>?_⟩;cases JO.1 hb;have :=(L8.1 ha).2;simp only [JF,JD]at this;exact this.2
    ·simp only [JN,L8,JO,JF,JD,hd];constructor
     ·rintro(⟨Z,V,z⟩ | rfl)
      ·exact⟨Z,V,.inl z⟩
      ·exact⟨rj.2 I,W,.inr rfl⟩
     ·rintro⟨Z,V,z | z⟩
      ·exact .inl ⟨Z,V,z⟩
      ·exact .inr z
   ·have W:tk c=false:=by
     have he:decide (x &&& nv c=0)=true:=by
      cases h:decide (x &&& nv c=0)with
      | true=>rfl
      | false=>rw [h]at he;cases he
     rw [he]at this;simpa using this.symm
    refine⟨⟨rfl,by omega,by omega,?_⟩,by show 123 - (c+1).toNat< 123 - c.toNat;omega⟩;refine LQ λd _=>?_
    by_cases J:d=c
    ·rw [J,W];rfl
    ·have:(d< c+1)↔d< c:=by rw [hd];exact⟨λh=>h.resolve_right J,.inl⟩
     rw [LK.2 this]
  ·simp only [JE,JZ]at G;have H:122< c.toNat:=by have:¬c.toNat<=122:=G;omega
   rw [show(nR.filter λd=>tk d&&decide (d< c))=nR.filter tk from LQ λd hd=>by
    have :=bc (rj.1 hd);rw [KH (Ko.2 (by omega)),LY]]
   exact hR
theorem IC {x y:UInt32}(h:x.toNat< 67108864)(k:y.toNat< 67108864):(x ||| y).toNat< 67108864:=by
 rw [UInt32.toNat_or];exact Nat.or_lt_two_pow (n:=26) h k
theorem DD {c:UInt8}(h:lt c=true):(nv c).toNat=2^(c.toNat - 97):=by
 have z:=bc h;have e:(c - 97).toNat=c.toNat - 97:=by
  have :=c.toNat_lt;rw [UInt8.toNat_sub];show(256 - 97+c.toNat) % 256=_;omega
 unfold nv mZ;rw [e,LU (by omega),ML];have:2^(c.toNat - 97)< 2^26:=Nat.pow_lt_pow_right (by omega) (by omega);show 1* 2^(c.toNat - 97) % 2^32=_;rw [Nat.one_mul];exact MC (by omega)
theorem E' {c:UInt8}(h:lt c=true):(nv c).toNat< 67108864:=by
 have z:=bc h;rw [DD h,show(67108864:Nat)=2^26 from rfl];exact Nat.pow_lt_pow_right (by omega) (by omega)
theorem EU {s:Tx}(W:∀c∈s,lt c=true)(hl:s.length<=1099511627776){w:World}{R:UInt32->World->Prop}(Z:∀x,qG x (λc=>decide (c∈s))->x.toNat< 67108864->R x w):
  Calls Tryz.prog 91 #[.string (ab s)] w (an [.w] R):=by
 refine tW s w R ?_;refine⟨λx i w'=>w'=w/\∃j:Nat,i=j/\j<=s.length/\x.toNat< 67108864/\qG x λc=>decide (c∈s.take j),λ _ i _=>(s.length - i).toNat,⟨rfl,0,rfl,Ks _,by decide,?_⟩,λx i w' hI=>?_⟩
 ·simpa using Ar
 obtain⟨rfl,j,rfl,hj,G,H⟩:=hI;refine⟨λI=>?_,λJ=>?_⟩
 ·have z:j< s.length:=by simp only [JD]at I;omega
  refine⟨⟨by omega,by omega⟩,yx ⟨by unfold aj;omega,⟨rfl,j+1,by omega,by omega,IC G (E' (W _ (kX z))),?_⟩,by show((s.length:Int) - ((j:Int)+1)).toNat< ((s.length:Int) - j).toNat;omega⟩⟩;rw [JI];have h:=H.add (W _ (kX z));have e:(ch (λc=>decide (c∈s.take j)) (bt s j))=λc=>decide (c∈s.take (j+1)):=by
   funext c
   unfold ch;rw [JG z,jz];have V:bt s j=s[j]:=by unfold bt;rw [L4,JC z];rfl
   rw [V];simp only [JN,JO,Bool.decide_or]
  rw [<-e];exact h
 ·have:j=s.length:=by simp only [JE]at J;omega
  rw [this,J3]at H;exact Z x H G
def Ga (k:UInt8)(u:U)(l:List (Off Nat))(c:UInt8):Prop:=∃o∈l,∃z,o.over k=some z/\z∉u.frL/\c=ρ0 z
def Gt (k:UInt8)(u:U)(l:List U)(c:UInt8):Prop:=Ga k u (l.flatMap offs) c
theorem zg {k:UInt8}{u:U}{l m:List (Off Nat)}{c:UInt8}:Ga k u (l++m) c↔Ga k u l c\/Ga k u m c:=by
 unfold Ga;constructor
 ·rintro⟨o,z,h⟩
  exact(JN.1 z).imp (λG=>⟨o,G,h⟩) λG=>⟨o,G,h⟩
 ·rintro(⟨o,z,h⟩ | ⟨o,z,h⟩)
  ·exact⟨o,Ke _ z,h⟩
  ·exact⟨o,J7 _ z,h⟩
theorem qG.cg {x:UInt32}{p q:UInt8->Prop}[DecidablePred p][DecidablePred q](h:qG x λc=>decide (p c))(e:∀c,p c↔q c):qG x λc=>decide (q c):=by
 have:(λc=>decide (p c))=λc=>decide (q c):=funext λc=>LK.2 (e c)
 rwa [<-this]
theorem DF {q:UInt8->Prop}[DecidablePred q](e:∀c,¬q c):qG 0 λc=>decide (q c):=by
 have:(λc=>decide (q c))=λ _=>false:=funext λc=>KI (e c)
 rw [this];exact Ar
theorem tz {k G:UInt8}{a b a' I:Nat}{v v':Value}{s J:Bool}(h:cQ k a b v s=cQ G a' I v' J):k=G/\a=a':=by
 unfold cQ at h
 injection h with H z
 injection z with z _
 injection H with _ H
 injection z with _ z
 exact⟨J4.1 (by omega),by omega⟩
theorem wE:∀u:U,u.ths.length<=u.size:=by
 intro u
 induction u with
 | par p q _ z=>simp only [T.ths,JA,T.size];omega
 | res x p z=>simp only [T.ths,T.size];omega
 | _=>simp [T.ths,T.size]
theorem xF {A:Type}{k:UInt8}{a c:A}{p:T A}{z:A}:(Off.snd a c p).over k=some z↔33=k/\z=a:=by
 show(if k=33 then some a else none)=some z↔_;constructor
 ·intro h;by_cases G:k=33
  ·exact⟨G.symm,(nZ h).symm⟩
  ·rw [JV G]at h;cases h
 ·rintro⟨H,I⟩;rw [Ka H.symm,I]
theorem xH {A:Type}{k:UInt8}{a c:A}{p:T A}{s:Bool}{z:A}:(Off.rcv a c p s).over k=some z↔63=k/\z=a:=by
 show(if k=63 then some a else none)=some z↔_;constructor
 ·intro h;by_cases G:k=63
  ·exact⟨G.symm,(nZ h).symm⟩
  ·rw [JV G]at h;cases h
 ·rintro⟨H,I⟩;rw [Ka H.symm,I]
theorem Dp:∀u:U,u.frL.length<=u.size:=by
 intro u
 induction u with
 | res x p z=>simp only [T.frL,JA,T.size];omega
 | _=>simp [T.frL,T.size]
theorem EJ {z:Nat}(h:z< 26):nv (ρ0 z)=mZ 1 z:=by
 unfold nv;rw [gz (AJ h),eV h];unfold σ0;rw [Nat.add_sub_cancel]
theorem qG.more {x:UInt32}{p q:UInt8->Prop}[DecidablePred p][DecidablePred q](h:qG x λc=>decide (p c)){z:Nat}(G:z< 26)(e:∀c,q c↔p c\/c=ρ0 z):qG (x ||| mZ 1 z) λc=>decide (q c):=by
 have H:=h.add (AJ G);rw [EJ G]at H;have:(ch (λc=>decide (p c)) (ρ0 z))=λc=>decide (q c):=by
  funext c
  unfold ch;rw [jz,LK.2 (e c),Bool.decide_or]
 rwa [<-this]
theorem FY {t:P}(ok:lZ t){w:World}{b n:Nat}{D:Nat->Prop}(st:FA w D b n t.text (td (num t e0 0).1))(hD:∀g,D g->g< w.heap.size){k:UInt8}(hk:k≠126){R:ay->World->Prop}(hR:∀w',Ex w w'->R (Bl k t) w'):
  Calls Tryz.prog 93 #[ptr b,.int .u8 k.toNat] w (an [.s] R):=by
 have su:=ok.su;have hszt:=ok.size;have hsh:=(kA su.ae).2.2;generalize hu:(num t e0 0).1=u at*;have hsz:u.size<=60:=by omega
 have hthl:=wE u;refine my (ptr b) k w R ?_;have hb:=st.mc.lt;obtain⟨vl,ξ,hl0⟩:=st.l;obtain⟨bl,vo,vt,ts,rfl,k2,k3,k4,k5,k6,k7,k8,k9⟩:=AX su hl0;obtain⟨at_,ω,hvt⟩:=k7.slice;refine⟨b,0,rfl,ptr bl,ξ,bl,0,rfl,vt,k5,at_,_,ω,hvt,λout x w'=>∃i:Nat,x=i/\i<=ts.length/\Ex w w'/\qG out λc=>decide (Gt k u (u.ths.take i) c),λ _ x _=>(ts.length - x).toNat,⟨0,rfl,Ks _,Ex.refl w,?_⟩,λout x w16 hI=>?_⟩
 ·exact DF λc=>by simp [Gt,Ga]
 obtain⟨i,rfl,hi,ε,ζ⟩:=hI;refine⟨λhlt=>?_,λhge=>?_⟩;rotate_left
 ·have δ:i=u.ths.length:=by simp only [JE]at hge;omega
  rw [δ,J3]at ζ;refine Bi ζ ?_;have:(nR.filter λc=>decide (Gt k u u.ths c))=Bl k t:=by
   unfold Bl;refine LQ λc _=>LK.2 ?_
   rw [GN su];constructor
   ·rintro⟨o,ho,z,J,h2,h3⟩
    obtain⟨q,hq,ho⟩:=Kv.1 ho;obtain⟨sub,_⟩:=aW (su.smp _ hq) _ ho;exact⟨z,h2,((su.free z ⟨q,hq,sub.fr z (qY J)⟩).resolve_left h2).1,h3,q,hq,o,ho,J⟩
   ·rintro⟨z,J,h2,h3,q,hq,o,ho,h4⟩
    exact⟨o,Kv.2 ⟨q,hq,ho⟩,z,h4,J,h3⟩
  rw [this];exact hR w16 ε
 have δ:i< ts.length:=by simp only [JD]at hlt;omega
 have υ:i< u.ths.length:=by omega
 have s16:=ε.size;have Z:=JM υ;have η:=su.th _ Z;have hsi:=eg u _ Z;have φ:∃bt ot H,vt= .slice (some ⟨bt,ot,none⟩) ts.length H/\w16.cell? ⟨bt,ot+i,none⟩=some ts[i]:=by
  rcases k7 with⟨_,h0⟩ | ⟨bt,ot,H,e,hbD,hb',G⟩
  ·rw [h0]at δ;simp at δ
  ·exact⟨bt,ot,H,e,by rw [ε.cell (a:=⟨bt,ot+i,none⟩) hb'];exact G i _ (JC δ)⟩
 obtain⟨bt,ot,H,hvt',φ⟩:=φ;refine⟨bt,ot,_,H,hvt',by omega,by omega,ts[i],by rw [JI,Kc];exact φ,rM η.1 η.2.1 η.2.2 (su.smp _ Z) (by omega) (λg hg=>by have :=hD g hg;omega) ((k9 i υ δ).ex ε) λv22 w23 xs x23 ο hm23=>?_⟩;have hofm:∀o∈offs u.ths[i],∀z,o.over k=some z->z∉u.frL->z< 26:=λo ho z J h2=>by
  obtain⟨sub,_⟩:=aW (su.smp _ Z) _ ho;exact((su.free z ⟨_,Z,sub.fr z (qY J)⟩).resolve_left h2).1
 have eT:(u.ths.take (i+1)).flatMap offs=(u.ths.take i).flatMap offs++offs u.ths[i]:=by rw [JG υ,KV];simp
 have hol:(offs u.ths[i]).length<=60:=by have J:=fF u.ths[i];omega
 have ς:=Ex.trans ε x23;generalize hos:offs u.ths[i]=os at*;have θ:∃a cap,v22= .slice a os.length cap:=by
  rcases ο.cell with⟨J,h2,_⟩ | ⟨g,cap,J,_⟩
  ·exact⟨none,0,by rw [J,h2]⟩
  ·exact⟨_,cap,J⟩
 obtain⟨av,cav,θ⟩:=θ;refine⟨av,_,cav,θ,λout x w'=>∃j:Nat,x=j/\j<=os.length/\Ex w23 w'/\qG out λc=>decide (Gt k u (u.ths.take i) c\/Ga k u (os.take j) c),λ _ x _=>(os.length - x).toNat,⟨0,rfl,Ks _,Ex.refl _,ζ.cg λc=>by simp [Ga]⟩,λout2 x w30 hI=>?_⟩;obtain⟨j,rfl,hj,ν,V⟩:=hI;refine⟨λhlt2=>?_,λhge2=>?_⟩;rotate_left
 ·have ι:j=os.length:=by simp only [JE]at hge2;omega
  rw [ι,J3]at V;refine⟨by unfold aj;omega,⟨i+1,by omega,by omega,Ex.trans ς ν,V.cg λc=>?_⟩,by show((ts.length:Int) - ((i:Int)+1)).toNat< ((ts.length:Int) - i).toNat;omega⟩;show Ga k u _ c\/Ga k u os c↔Ga k u _ c;rw [eT,zg]
 have ι:j< os.length:=by simp only [JD]at hlt2;omega
 have ho30:=ο.ex ν;have hm30:=OffsM.ex hm23 ν;obtain⟨g,cap,cs,hvg,β,G⟩:=vV ho30 hm30 ι;obtain⟨kk,a1,b1,vr,s1,rfl,hone⟩:=β.any;refine⟨g,0,_,cap,hvg,by omega,by omega,kk,a1,b1,vr,s1,⟨G 0 _ rfl _ (by omega) (by omega),G 1 _ rfl _ (by omega) (by omega),G 2 _ rfl _ (by omega) (by omega),G 3 _ rfl _ (by omega) (by omega),G 4 _ rfl _ (by omega) (by omega),trivial⟩,λb40 w41 hb40 hw41=>?_⟩;obtain⟨box1,box2⟩:=zt (cs:=cQ kk a1 b1 vr s1) rfl hb40 hw41;refine⟨⟨rfl,tu hone,box1⟩,λw42 hw42=>?_⟩;obtain⟨x42,l42,χ⟩:=box2 w42 hw42;have W:=Ex.trans ν x42;have κ:=Ex.trans ς W;have ψ:os[j]∈os:=JM ι;have etk:os.take (j+1)=os.take j++[os[j]]:=JG ι;have γ:((os.length:Int) - ((j:Int)+1)).toNat< ((os.length:Int) - j).toNat:=by omega
 have I:∀z,os[j].over k=some z↔kk=k/\z=a1:=by
  intro z;cases ho:os[j]with
  | tau p=>
   rw [ho]at β;obtain⟨_,_,_,_,J,_⟩:=β;have this:=(tz J).1;exact⟨(λh=>by cases h),λh=>absurd (h.1.symm.trans this) hk⟩
  | snd a c p=>
   rw [ho]at β;obtain⟨_,_,J,_⟩:=β;obtain⟨e1,e2⟩:=tz J;subst e1 e2;exact xF
  | rcv a c p s=>
   rw [ho]at β;obtain⟨_,J,_⟩:=β;obtain⟨e1,e2⟩:=tz J;subst e1 e2;exact xH
 have μ:(∀z,os[j].over k=some z->z∈u.frL)->qG out2 λc=>decide (Gt k u (u.ths.take i) c\/Ga k u (os.take (j+1)) c):=λh=>V.cg λc=>by
  rw [etk,zg];have:¬Ga k u [os[j]] c:=by
   rintro⟨o,ho,z,J,h2,_⟩
   cases JO.1 ho;exact h2 (h z J)
  simp [this]
 refine⟨kk,χ 0 (by omega),λα=>?_,λα=>?_⟩;rotate_left
 ·have α:kk≠k:=by simpa using α
  exact⟨by unfold aj;omega,⟨j+1,by omega,by omega,W,μ λz h=>absurd ((I z).1 h).1 α⟩,γ⟩
 have α:kk=k:=by simpa using α
 refine⟨a1,χ 1 (by omega),?_⟩;refine mB (ptr b) a1 w42 _ ?_;refine⟨b,0,rfl,ptr bl,?_,bl,0,rfl,vo,?_,Ak (k6.ex κ) ?_ ⟨λhn=>?_,λhn=>?_⟩⟩
 ·rw [κ.cell (a:=⟨b,0+2,none⟩) hb];exact ξ
 ·rw [κ.cell (a:=⟨bl,0+0,none⟩) k3];exact k4
 ·have :=Dp u;omega
 ·have hn:a1∉u.frL:=by simpa using hn
  have h26:=hofm _ ψ a1 ((I a1).2 ⟨α,rfl⟩) hn;refine⟨a1,χ 1 (by omega),by omega,by unfold aj;omega,⟨j+1,by omega,by omega,W,?_⟩,γ⟩;rw [JI];refine V.more h26 λc=>?_
  rw [etk,zg];have:Ga k u [os[j]] c↔c=ρ0 a1:=by
   constructor
   ·rintro⟨o,ho,z,J,h2,h3⟩
    cases JO.1 ho;rw [h3,((I z).1 J).2]
   ·intro h;exact⟨_,JO.2 rfl,a1,(I a1).2 ⟨α,rfl⟩,hn,h⟩
  rw [this];exact Mp.symm
 ·have hn:a1∈u.frL:=by simpa using hn
  exact⟨by unfold aj;omega,⟨j+1,by omega,by omega,W,μ λz h=>((I z).1 h).2▸hn⟩,γ⟩
theorem wX {s:Tx}(G:St s){w:World}{R:Bool->World->Prop}(H:∀w',Ex w w'->R (decide (dW s)) w'):
  Calls Tryz.prog 48 #[.string (ab s)] w (an [.b] R):=by
 obtain⟨t,ok,rfl⟩:=G;refine rX t.text w R ?_;have I:=ok.size;have hlen:=ok.len;refine zi ok.al (by omega) (by omega) λb w1 J hb st=>?_
 refine FY ok st (λg V=>V.2.2) (k:=33) (by decide) λw2 W=>?_
 have z:∀c∈Bl 33 t,lt c=true:=λc Z=>Cv ok.su ((Ax ok.su).1 Z)
 have hl:(Bl 33 t).length<=26:=by
  have:nR.length=26:=by simp [nR]
  exact this▸LG _ _
 refine EU z (by omega) λx hx _=>yx (c:=119) ?_
 have h:=hx 119 (by decide);rw [h,Bool.not_not];have e:decide (dW t.text)=decide (119∈Bl 33 t):=LK.2 (by unfold dW;rw [AU ok]);have :=H w2 (Ex.trans J W);rw [e]at this;exact this
theorem Br {w:World}{v:Value}{l:List Tx}(h:Strs w v l)(hl:l.length<=1099511627776)(Z:∀s∈l,St s){R:Bool->World->Prop}(V:∀w',Ex w w'->R (decide (∃s∈l,dW s)) w'):
  Calls Tryz.prog 47 #[v,.func (Fn.func 48) #[] #[]] w (an [.b] R):=by
 refine cF v _ w R ?_;refine df v _ w _ ?_;obtain⟨ao,cap,hv⟩:=h.slice;refine⟨ao,_,cap,hv,λi w'=>∃j:Nat,i=j/\j<=l.length/\Ex w w'/\∀s∈l.take j,¬dW s,λi _=>(l.length - i).toNat,⟨0,rfl,Ks _,Ex.refl w,by simp⟩,λi w' hI=>?_⟩;obtain⟨j,rfl,hj,x,hm⟩:=hI;refine⟨λI=>?_,λJ=>?_⟩
 ·have z:j< l.length:=by simp only [JD]at I;omega
  refine h.get x (i:=j) (x:=l[j]) (by omega) (by rw [JI];exact JC z) (Q:=λn=>_) ⟨48,[],rfl,by decide,?_⟩;refine wX (Z _ (JM z)) λw2 W=>⟨λhe=>?_,λG=>?_⟩
  ·have he:dW l[j]:=by simpa using he
   show R (decide (0<=(j:Int))) _;rw [KH (show(0:Int)<=(j:Int) by omega)];have :=V w2 (Ex.trans x W);rw [KH ⟨_,JM z,he⟩]at this;exact this
  ·have G:¬dW l[j]:=by simpa using G
   refine⟨by unfold aj;omega,⟨j+1,by omega,by omega,Ex.trans x W,λs H=>?_⟩,by show((l.length:Int) - ((j:Int)+1)).toNat< ((l.length:Int) - j).toNat;omega⟩;rw [JG z,JN,JO]at H;exact H.elim (hm s) λe=>e▸G
 ·have:j=l.length:=by simp only [JE]at J;omega
  rw [this,J3]at hm;show R (decide ((0:Int)<= -1)) _;rw [KI (show ¬(0:Int)<= -1 by omega)];have :=V w' x;rw [KI (fun⟨s,h1,h2⟩=>hm s h1 h2)]at this;exact this
theorem BY {u:U}(Z:u.size<=60):(gN u).length<=12960000:=by
 have V:u.ths.length<=60:=by have :=wE u;omega
 have G:∀i (h:i< u.ths.length),(offs u.ths[i]).length<=60:=λi h=>by
  have z:=fF u.ths[i];have h2:=eg u _ (JM h);omega
 have I:∀i c d p k,k< u.ths.length->(E2 u i c d p k).length<=60:=λi c d p k W=>by
  unfold E2;split
  ·simp
  ·rw [cN W];have z:=ik (f:=E3 u i k c d p) (c:=1) (l:=offs u.ths[k]) λx _=>by
    cases x with
    | rcv e' x q s=>unfold E3;simp only;split<;>simp
    | _=>simp [E3]
   have :=G k W;omega
 have J:∀i o,(E1 u i o).length<=3600:=λi o=>by
  cases o with
  | tau p=>simp [E1]
  | rcv=>simp [E1]
  | snd c d p=>
   have z:=ik (f:=E2 u i c d p) (c:=60) (l:=List.range u.ths.length) λx H=>I i c d p x (K2.1 H)
   rw [LO]at z;show((List.range u.ths.length).flatMap (E2 u i c d p)).length<=3600;omega
 have z:=ik (f:=E0 u) (c:=216000) (l:=List.range u.ths.length) λx H=>by
  rw [K2]at H;have z:=ik (f:=E1 u x) (c:=3600) (l:=offs u.ths[x]) λy _=>J x y
  have :=G x H;unfold E0;rw [cN H];omega
 rw [LO]at z;unfold gN;omega
theorem rz {s:Tx}{l:List Tx}(h:ue s=some l):l.length<=12960000:=by
 unfold ue at h;split at h
 ·rename_i z;have ok:=z.choose_spec.1;generalize z.choose=t at ok h;have G:=ok.size;have H:=(kA ok.su.ae).2.2;unfold Cm at h;split at h
  ·cases h;have I:=Da (aX (outs (gN (num t e0 0).1)));have J:=(aN (outs (gN (num t e0 0).1))).length_eq;have V:=BY (u:=(num t e0 0).1) (by omega);have h4:(outs (gN (num t e0 0).1)).length=(gN (num t e0 0).1).length:=by unfold outs;simp
   omega
  ·cases h
 ·cases h
structure wL (B b r:Nat)(fs:Tx)(w:World)(all:List Tx)(n:Nat)(mm:Value->Option Value)(L:Nat->Prop):Prop where
 lb:B<=b
 lt:b< w.heap.size
 lr:B<=r
 br:b≠r
 f:∀j,w.frozen? ⟨b,j,none⟩=false
 c0:w.cell? ⟨b,0,none⟩=some (.string (ab fs))
 c2:w.cell? ⟨b,2,none⟩=some (.map (some r))
 mp:IsMap w r .string mm
 ml:∀g,L g->B<=g/\g< w.heap.size/\g≠b/\g≠r
 sl:∃v,w.cell? ⟨b,1,none⟩=some v/\Own B w v all/\∀g,v.ownBlock=some g->g≠b/\g≠r/\¬L g
 nx:∀j (h:j< all.length),j< n->∃v l,mm (.string (ab all[j]))=some v/\ue all[j]=some l/\Strs w v l/\∀g,v.ownBlock=some g->L g
section
variable {B b r n:Nat} {fs:Tx} {w w':World} {all:List Tx} {mm:Value->Option Value} {L:Nat->Prop}
theorem wL.ex (h:wL B b r fs w all n mm L)(x:Ex w w'):wL B b r fs w' all n mm L:=by
 obtain⟨v,G,H,I⟩:=h.sl;have s:=x.size;refine⟨h.lb,by have :=h.lt;omega,h.lr,h.br,λj=>by rw [K4 x h.lt];exact h.f j,by rw [x.cell (a:=⟨b,0,none⟩) h.lt];exact h.c0,by rw [x.cell (a:=⟨b,2,none⟩) h.lt];exact h.c2,gm h.mp (x.block r (gD h.mp)),λg z=>⟨(h.ml g z).1,by have :=(h.ml g z).2.1;omega,(h.ml g z).2.2⟩,⟨v,by rw [x.cell (a:=⟨b,1,none⟩) h.lt];exact G,H.ex x,I⟩,λj J V=>?_⟩;obtain⟨v',l,h4,h5,W,Z⟩:=h.nx j J V;exact⟨v',l,h4,h5,W.ex x,Z⟩
theorem Kp.zy (k:bY w w' r):Kp w w' λg=>g=r:=⟨k.os,k.tape,k.output,Nat.le_of_eq k.size.symm,λg _ z=>k.block g z⟩
theorem nK {v:Value}{g off m cap:Nat}(h:v= .slice (some ⟨g,off,none⟩) m cap):v.ownBlock=some g:=by rw [h];rfl
theorem wL.aF (h:wL B b r fs w all n mm L)(hB:B<=w.heap.size){w1:World}(x:Ex w w1)(hn:n< all.length){v:Value}{l:List Tx}(hl:ue all[n]=some l)(hm:IsMap w' r .string (dz mm (.string (ab all[n])) v))(k:bY w1 w' r)(W:Strs w1 v l)(H:∀g,v.ownBlock=some g->w.heap.size<=g):
  wL B b r fs w' all (n+1) (dz mm (.string (ab all[n])) v) λg=>L g\/v.ownBlock=some g:=by
 have G:=h.ex x;have ζ:=h.lt;have hr:=gD h.mp;have kp:=Kp.zy k;have eb:=k.block b h.br;have α:∀g,v.ownBlock=some g->g< w1.heap.size:=λg z=>by
  rcases W with⟨e,_⟩ | ⟨b',off,cap,e,h2,_⟩
  ·rw [e]at z;cases z
  ·rw [e]at z;cases z;exact h2
 obtain⟨vo,k1,k2,Z⟩:=G.sl;obtain⟨β,γ,δ,η⟩:=h.sl;have ε:vo=β:=by
  have :=x.cell (a:=⟨b,1,none⟩) h.lt;rw [k1,γ]at this;exact Kt this
 subst ε;refine⟨h.lb,by have :=k.size;have :=G.lt;omega,h.lr,h.br,λj=>by rw [J8 (w:=w1) eb];exact G.f j,by rw [JB (w:=w1) eb];exact G.c0,by rw [JB (w:=w1) eb];exact G.c2,hm,λg z=>?_,⟨vo,by rw [JB (w:=w1) eb];exact k1,k2.kp kp λg z=>(Z g z).2.1,λg z=>⟨(Z g z).1,(Z g z).2.1,λe=>e.elim (Z g z).2.2 λe=>?_⟩⟩,λj hj θ=>?_⟩
 ·rcases z with z | z
  ·have :=G.ml g z;exact⟨this.1,by have :=k.size;omega,this.2.2⟩
  ·have h2:=H g z;have h3:=α g z;exact⟨by omega,by have :=k.size;omega,by omega,by omega⟩
 ·have h2:=H g e;have h3:=δ.block g z;omega
 ·have I:∀{v':Value} {l':List Tx},Strs w1 v' l'->(∀g,v'.ownBlock=some g->g≠r)->Strs w' v' l':=λW H=>W.kp kp λb' off n' cap e J=>H b' (nK e) J
  by_cases e:all[j]=all[n]
  ·refine⟨v,l,by rw [e];unfold dz;simp,by rw [e];exact hl,I W λg z=>by have :=H g z;omega,λg z=> .inr z⟩
  ·have V:j< n:=by
    have:j≠n:=λJ=>e (by subst J;rfl)
    omega
   obtain⟨v',l',h4,h5,h6,h7⟩:=G.nx j hj V;refine⟨v',l',?_,h5,I h6 λg z=>(G.ml g (h7 g z)).2.2.2,λg z=> .inl (h7 g z)⟩;unfold dz;rw [JV]
   ·exact h4
   ·intro J;exact e (pc (Value.string.inj J))
theorem wL.app (h:wL B b r fs w all n mm L)(hn:n<=all.length)(hB:B<=w.heap.size){v:Value}(hv:w.cell? ⟨b,1,none⟩=some v){s:Tx}{w1 w2:World}(x:Ex w w1){v':Value}(ho:Own B w2 v' (all++[s]))(G:w1.grownBy w2 v.ownBlock)(α:∀g,v'.ownBlock=some g->v.ownBlock=some g\/w1.heap.size<=g):
  ((∃u,w2.cell? ⟨b,1,none⟩=some u)/\w2.frozen? ⟨b,1,none⟩=false)/\∀w',w'=w2.setCell ⟨b,1,none⟩ v'->wL B b r fs w' (all++[s]) n mm L/\Below B w w':=by
 have z:=h.ex x;obtain⟨vo,k1,k2,W⟩:=z.sl;have β:vo=v:=by
  have :=x.cell (a:=⟨b,1,none⟩) h.lt;rw [k1,hv]at this;exact Kt this
 subst β;have k:Kp w1 w2 λg=>vo.ownBlock=some g:=Kp.aP G λ _ h=>h
 have s1:=x.size;have γ:=z.lt;have Z:=k.block b γ λe=>(W b e).1 rfl
 have c1:w2.cell? ⟨b,1,none⟩=some vo:=by rw [JB (w:=w1) Z];exact k1
 have f2:∀j,w2.frozen? ⟨b,j,none⟩=false:=λj=>by rw [J8 (w:=w1) Z];exact z.f j
 refine⟨⟨⟨_,c1⟩,f2 1⟩,λw' H=>?_⟩;have kr:Kr b w2 w':=H▸Kr.set w2 1 _;have sk:=k.size;have sr:=kr.size;have δ:=gD z.mp;have I:∀g,v'.ownBlock=some g->g≠b/\g≠r/\¬L g:=λg G=>(α g G).elim (W g) λe=>⟨by omega,by omega,λhL=>by have :=(z.ml g hL).2.1;omega⟩
 have ε:∀{g},g≠b->g< w1.heap.size->vo.ownBlock≠some g->w'.heap[g]?=w1.heap[g]?:=λ{g} h3 h4 h5=>(kr.block g (by omega) h3).trans (k.block g h4 h5)
 refine⟨⟨h.lb,by omega,h.lr,h.br,λj=>by rw [H,JU];exact f2 j,?_,?_,gm z.mp (ε h.br.symm δ λe=>(W r e).2.1 rfl),λg G=>⟨(z.ml g G).1,by have :=(z.ml g G).2.1;omega,(z.ml g G).2.2⟩,⟨v',by rw [H];exact JT _ _ _ c1,ho.kp kr λg G=>(I g G).1,I⟩,λj hj ζ=>?_⟩,?_⟩
 ·rw [H,JH _ _ _ _ (by simp),JB (w:=w1) Z];exact z.c0
 ·rw [H,JH _ _ _ _ (by simp),JB (w:=w1) Z];exact z.c2
 ·have J:j< all.length:=by omega
  rw [Md J];obtain⟨v2,l2,h4,h5,h6,h7⟩:=z.nx j J ζ;have kk:Kp w1 w' λg=>vo.ownBlock=some g\/g=b:=Kp.trans (Kp.mono (λ _ h=> .inl h) k) kr λ _ _ h=> .inr h
  exact⟨v2,l2,h4,h5,h6.kp kk λb' off n' cap e V=>V.elim (λV=>(W b' V).2.2 (h7 b' (nK e))) λV=>(z.ml b' (h7 b' (nK e))).2.2.1 V,h7⟩
 ·have b1:Below B w w1:=My x hB;have b2:Below B w1 w2:=Kp.below k (by omega) λg G e=>by have :=(k2.block g e).1;omega
  have b3:Below B w2 w':=Kp.below kr (by omega) λg G e=>by have :=h.lb;omega
  exact Le (Le b1 b2) b3
end
def Ir (w:World)(b r:Nat)(fs:Tx)(x:Int)(w':World):Prop:=
 ∃(i:Nat) (all:List Tx) (mm:Value->Option Value) (L:Nat->Prop),x=i/\i<=all.length/\all.length<=60/\(∀s∈all,St s)/\bfs (62 - i) all i=bfs 62 [fs] 0/\Ex w w'/\wL w.heap.size b r fs w' all i mm L
def IW (w:World)(b r:Nat)(fs:Tx)(all:List Tx)(n:Nat)(vl:Value)(l:List Tx)(mm:Value->Option Value)(x:Int)(w':World):Prop:=
 ∃(j:Nat) (L:Nat->Prop),x=j/\j<=l.length/\Ex w w'/\Strs w' vl l/\wL w.heap.size b r fs w' (bX all (l.take j)) n mm L
theorem wL.strs {B b r n:Nat}{fs:Tx}{w:World}{all l:List Tx}{mm:Value->Option Value}{L:Nat->Prop}(h:wL B b r fs w all n mm L){j:Nat}(I:j< all.length)(z:j< n){v:Value}(hm:mm (.string (ab all[j]))=some v)(J:ue all[j]=some l):Strs w v l:=by
 obtain⟨v',W,G,H,V,_⟩:=h.nx j I z;rw [hm]at G;cases G;rw [J]at H;cases H;exact V
theorem B7 {s:Tx}{w:World}{R:Value->Bool->World->Prop}(hR1:dB s=none->∀w',Ex w w'->R (.pointer none) false w')
  (hR2:∀n0 all,cy s=some n0->dB s=some all->(∀x∈all,St x)->all.length<=60->∀b r mm L w',Ex w w'->wL w.heap.size b r n0 w' all all.length mm L->R (ptr b) true w'):
  Calls Tryz.prog 90 #[.string (ab s)] w (an [.v,.b] R):=by
 refine qE s w R ?_;refine BR (λhn w4 x4=>⟨λ _=>hR1 (by unfold dB;rw [hn];rfl) w4 x4,(λh=>by cases h)⟩) λt ok hst b2 w4 x4 hb2 st=>⟨(λh=>by cases h),λ _=>?_⟩
 have hg:dB s=bfs 62 [t.text] 0:=by unfold dB;rw [hst];rfl
 rw [hg]at hR1 hR2;have hb2l:=st.mc.lt;have ctx:∀w',Ex w4 w'->w'.cell? ⟨b2,0+1,none⟩=some (.string (ab t.text)):=λw' x=>by rw [x.cell (a:=⟨b2,0+1,none⟩) hb2l];exact st.tx
 refine⟨λw'=>Ex w4 w',λw6 hw6=>⟨hw6▸Ex.drew w4,b2,0,rfl,t.text,ctx,b2,0,rfl,t.text,ctx,?_,?_⟩⟩;have x6:Ex w4 w6:=hw6▸Ex.drew w4;intro bo V κ G;have H:Ex w6 V:=G▸Ex.alloc w6 _;have μ:V.heap.size=w6.heap.size+1:=by rw [G,size_alloc]
 refine⟨Ex.trans x6 H,?_⟩;intro r W hr I;have J:Ex V W:=I▸Ex.alloc V _;have ν:W.heap.size=V.heap.size+1:=by rw [I,size_alloc]
 refine⟨Ex.trans x6 (Ex.trans H J),rfl,rfl,?_⟩;intro b Z hb z;have δ:Ex W Z:=z▸Ex.alloc W _;have s18:Z.heap.size=W.heap.size+1:=by rw [z,size_alloc]
 have α:=Ex.trans H (Ex.trans J δ);refine⟨Ex.trans x6 α,?_⟩;have s4:=x4.size;have s6:=x6.size;have em:Z.heap[r]?=some (.map #[] 0):=by rw [δ.block r (by omega),I,hr];unfold World.alloc;simp
 have hI:wL w.heap.size b r t.text Z [t.text] 0 (dc []) λ _=>False:=by
  refine⟨by omega,by omega,by omega,by omega,λj=>by rw [z,hb];exact aO _ _ _ _,by rw [z,hb];exact aa rfl,by rw [z,hb];exact aa rfl,⟨#[],0,em,⟨by simp,by simp,by simp⟩,by simp,λq=>rfl⟩,λg hg=>hg.elim,⟨.slice (some ⟨bo,0,none⟩) 1 1,by rw [z,hb];exact aa rfl,(Own.one (by omega) κ G).ex (Ex.trans J δ),λg hg=>?_⟩,λj _ hj=>by omega⟩;have hg:bo=g:=Kt hg;exact⟨by omega,by omega,λh=>h⟩
 have ξ:Ex w Z:=Ex.trans x4 (Ex.trans x6 α);clear em z I G s18 ν μ hb hr κ H J δ α x6 s6;refine⟨Ir w b r t.text,λx _=>(61 - x).toNat,⟨0,[t.text],_,_,rfl,by simp,by simp,λs hs=>by cases JO.1 hs;exact⟨t,ok,rfl⟩,rfl,ξ,hI⟩,λx w22 hO=>?_⟩;rotate_left
 have x6:Ex w4 w6:=hw6▸Ex.drew w4;intro r V hr G;have H:Ex w6 V:=G▸Ex.alloc w6 _;have μ:V.heap.size=w6.heap.size+1:=by rw [G,size_alloc]
 refine⟨Ex.trans x6 H,?_⟩;intro bo W κ I;have J:Ex V W:=I▸Ex.alloc V _;have ν:W.heap.size=V.heap.size+1:=by rw [I,size_alloc]
 refine⟨Ex.trans x6 (Ex.trans H J),rfl,rfl,?_⟩;intro b Z hb z;have δ:Ex W Z:=z▸Ex.alloc W _;have s18:Z.heap.size=W.heap.size+1:=by rw [z,size_alloc]
 have α:=Ex.trans H (Ex.trans J δ);refine⟨Ex.trans x6 α,?_⟩;have s4:=x4.size;have s6:=x6.size;have em:Z.heap[r]?=some (.map #[] 0):=by rw [δ.block r (by omega),J.block r (by omega),G,hr];unfold World.alloc;simp
 have hI:wL w.heap.size b r t.text Z [t.text] 0 (dc []) λ _=>False:=by
  refine⟨by omega,by omega,by omega,by omega,λj=>by rw [z,hb];exact aO _ _ _ _,by rw [z,hb];exact aa rfl,by rw [z,hb];exact aa rfl,⟨#[],0,em,⟨by simp,by simp,by simp⟩,by simp,λq=>rfl⟩,λg hg=>hg.elim,⟨.slice (some ⟨bo,0,none⟩) 1 1,by rw [z,hb];exact aa rfl,(Own.one (by omega) κ I).ex δ,λg hg=>?_⟩,λj _ hj=>by omega⟩;have hg:bo=g:=Kt hg;exact⟨by omega,by omega,λh=>h⟩
 have ξ:Ex w Z:=Ex.trans x4 (Ex.trans x6 α);clear em z I G s18 ν μ hb hr κ H J δ α x6 s6;refine⟨Ir w b r t.text,λx _=>(61 - x).toNat,⟨0,[t.text],_,_,rfl,by simp,by simp,λs hs=>by cases JO.1 hs;exact⟨t,ok,rfl⟩,rfl,ξ,hI⟩,λx w22 hO=>?_⟩
 all_goals
  obtain⟨i,all,mm,L,rfl,hi,ο,ς,θ,x22,hO⟩:=hO;obtain⟨v,hv1,hv2,hv3⟩:=hO.sl;obtain⟨a,cap,hv⟩:=hv2.strs.slice;refine⟨v,hv1,a,_,cap,hv,λhlt=>?_,λhge=>?_⟩;rotate_left
  ·have β:¬i< all.length:=by simp only [JE]at hge;omega
   have e:=(AF ο β hi).symm.trans θ;have ei:i=all.length:=by omega
   subst ei;exact hR2 _ _ hst e.symm ς ο b r mm L w22 x22 hO
  have β:i< all.length:=by simp only [JD]at hlt;omega
  refine⟨v,hv1,hv2.strs.get (Ex.refl _) (i:=i) (x:=all[i]) (by omega) (by rw [JI];exact JC β) (Q:=λn=>_) ?_⟩;obtain⟨t',yM,et⟩:=ς _ (JM β);have hsz':=yM.size;have hlen':=yM.len;have hnq:=DJ yM;have s22:=x22.size;rw [et]at hnq;rw [<-et];refine zi yM.al (by omega) (by omega) λb33 w34 υ hb33 st'=>DX yM st' (λg hg=>⟨hg.2.1,hg.2.2⟩) (λhn η k37=>⟨λ _=>hR1 ((xY ο β (hnq.trans hn)).symm.trans θ).symm η ?_,(λh=>by cases h)⟩) λl hl v35 η k37 hs35 hv35=>⟨(λh=>by cases h),λ _=>?_⟩
  ·exact Ex.trans x22 (Ex.below υ (Kp.below k37 υ.size λg hg e=>by omega))
  have ι:=hnq.trans hl;have s34:=υ.size;have ε:Ex w22 η:=Ex.below υ (Kp.below k37 υ.size λg hg e=>by omega);obtain⟨bv,ov,capv,hv',hbv,hcv⟩:=hv2.strs.at β;refine⟨λw'=>Ex η w',λw39 hw39=>⟨hw39▸Ex.drew η,.map (some r),λw' x=>(hO.ex (Ex.trans ε x)).c2,v,λw' x=>?_,bv,ov,_,capv,hv',by omega,by omega,all[i],λw' x=>?_,r,mm,rfl,?_⟩⟩
  ·rw [(Ex.trans ε x).cell (a:=⟨b,1,none⟩) hO.lt];exact hv1
  ·rw [(Ex.trans ε x).cell (a:=⟨bv,_,none⟩) hbv,JI,Kc];exact hcv
  have x39:Ex η w39:=hw39▸Ex.drew η;have ζ:=Ex.trans ε x39;refine⟨(hO.ex ζ).mp,λw49 hm49 k49=>?_⟩;have hU:=hO.aF s22 ζ β ι hm49 k49 (hs35.ex x39) λg hg=>by have :=hv35 g hg;omega
  have x49:Ex w w49:=Ex.below (Ex.trans x22 ζ) (Kp.below (Kp.zy k49) (by have :=ζ.size;omega) λg hg e=>by have :=hO.lr;omega);generalize hmm':dz mm (.string (ab all[i])) v35=mm' at*;have hkey:mm' (.string (ab all[i]))=some v35:=by rw [<-hmm'];unfold dz;simp
  have φ:∀{w':World} {cur:List Tx} {L':Nat->Prop},all<+:cur->wL w.heap.size b r t.text w' cur (i+1) mm' L'->Strs w' v35 l:=λ{w' cur L'} hp h=>by
   have e:∃h:i< cur.length,cur[i]=all[i]:=⟨J2 β hp.length_le,(hp.getElem β).symm⟩
   obtain⟨h1,h2⟩:=e;exact h.strs h1 (by omega) (by rw [h2];exact hkey) (by rw [h2];exact ι)
  have hll:=rz ι;obtain⟨av,capl,hvl⟩:=hs35.slice;refine⟨av,_,capl,hvl,IW w b r t.text all (i+1) v35 l mm',λx _=>(l.length - x).toNat,⟨0,_,rfl,Ks _,x49,φ (List.prefix_refl _) hU,hU⟩,λx w56 hI=>?_⟩;obtain⟨j,L1,rfl,hj,χ,hs56,hI⟩:=hI;obtain⟨v62,c62,o62,n62⟩:=hI.sl;have hcl:=rQ (l.take j) all;rw [Kf]at hcl;have ψ:all<+:bX all (l.take j):=oA;have hple:=ψ.length_le;refine⟨λhlt2=>?_,λhge2=>?_⟩;rotate_left
  ·have ω:j=l.length:=by simp only [JE]at hge2;omega
   subst ω;rw [J3]at hI hple ψ o62;obtain⟨a78,cap78,hv78⟩:=o62.strs.slice;refine⟨v62,c62,a78,_,cap78,hv78,λγ=>?_,λγ=>?_⟩
   ·have γ:60< (bX all l).length:=by simp only [JD]at γ;omega
    exact hR1 ((AI ο β ι γ).symm.trans θ).symm w56 χ
   ·have γ:¬60< (bX all l).length:=by simp only [JE]at γ;omega
    refine⟨by unfold aj;omega,⟨i+1,bX all l,mm',L1,by omega,by omega,by omega,λs hs=>?_,(wY ο β ι γ).symm.trans θ,χ,hI⟩,by show(61 - ((i:Int)+1)).toNat< (61 - (i:Int)).toNat;omega⟩;exact(lF.1 hs).elim (ς s) (CW w ι s)
  have ω:j< l.length:=by simp only [JD]at hlt2;omega
  have hmeas:((l.length:Int) - ((j:Int)+1)).toNat< ((l.length:Int) - j).toNat:=by omega
  refine hs56.get (Ex.refl _) (i:=j) (x:=l[j]) (by omega) (by rw [JI];exact JC ω) (Q:=λn=>_) ⟨v62,c62,Fi o62.strs (by omega) ⟨λhq=>⟨v62,c62,λb66 w67 hb66 hw67=>?_⟩,λhq=>?_⟩⟩
  ·have hq:l[j]∉bX all (l.take j):=by simpa using hq
   have x67:Ex w56 w67:=hw67▸Ex.alloc w56 _;have s56:=χ.size;have s67:=x67.size;refine Own.push (o62.ex x67) (by omega) (Strs.one hb66 hw67) (by simp only [JA,JQ];omega) λv73 w74 _ ho hg hn=>?_
   obtain⟨f1,f2⟩:=hI.app (by omega) s56 c62 x67 ho hg hn;refine⟨ho.ka,f1,λw76 hw76=>?_⟩;obtain⟨h76,b76⟩:=f2 w76 hw76;have e:bX all (l.take (j+1))=bX all (l.take j)++[l[j]]:=by rw [lN ω];unfold ke;rw [JV hq]
   refine⟨by unfold aj;omega,⟨j+1,L1,by omega,by omega,Ex.below χ b76,φ (ψ.trans (List.prefix_append _ _)) h76,by rw [e];exact h76⟩,hmeas⟩
  ·have hq:l[j]∈bX all (l.take j):=by simpa using hq
   have e:bX all (l.take (j+1))=bX all (l.take j):=by rw [lN ω];unfold ke;rw [Ka hq]
   exact⟨by unfold aj;omega,⟨j+1,L1,by omega,by omega,χ,hs56,by rw [e];exact hI⟩,hmeas⟩
theorem CY {p q:Tx}{w:World}{R:Value->Bool->World->Prop}(H:j9 p q=none->∀v w',Ex w w'->R v false w')
  (J:∀n0 all,cy ([40]++p++[38]++q++[41])=some n0->j9 p q=some all->(∀x∈all,St x)->all.length<=60->∀b r mm L B w',Ex w w'->w.heap.size<=B->wL B b r n0 w' all all.length mm L->R (ptr b) true w'):
  Calls Tryz.prog 46 #[.string (ab p),.string (ab q)] w (an [.v,.b] R):=by
 refine tF p q w R ?_;refine zC λv3 Z V=>⟨λz=>?_,λz=>?_⟩
 ·have z:¬vk p:=by simpa using z
  exact H (by unfold j9;rw [JV λh=>z h.1]) _ Z V
 ·have z:vk p:=by simpa using z
  refine zC λv6 w8 W=>⟨λG=>?_,λG=>?_⟩
  ·have G:¬vk q:=by simpa using G
   exact H (by unfold j9;rw [JV λh=>G h.2]) _ w8 (Ex.trans V W)
  ·have G:vk q:=by simpa using G
   have e:j9 p q=dB ([40]++p++[38]++q++[41]):=by unfold j9;rw [Ka ⟨z,G⟩]
   have α:p.length<=300:=by obtain⟨_,_,_,h,_⟩:=z;exact h.1
   have β:q.length<=300:=by obtain⟨_,_,_,h,_⟩:=G;exact h.1
   have I:=Ex.trans V W;refine⟨?_,?_,?_,?_,B7 (λhn w' x=>H (e.trans hn) _ w' (Ex.trans I x)) λn0 all h1 h2 h3 h4 b r mm L w' x h=>J n0 all h1 (e.trans h2) h3 h4 b r mm L _ w' (Ex.trans I x) I.size h⟩
   all_goals simp only [JJ,JA,JQ];omega
theorem y4 {a:List Tx}{s:Tx}(h:a.Nodup):(ke a s).Nodup:=by
 unfold ke;split
 ·exact h
 ·rename_i z;exact Kh.2 ⟨h,by simp,λx G y H=>by cases JO.1 H;exact λe=>z (e▸G)⟩
theorem tf:∀{l a:List Tx},a.Nodup->(bX a l).Nodup
 | [],_,h=>h
 | s::l,a,h=>tf (l:=l) (a:=ke a s) (y4 h)
structure Fs (all:List Tx)(n:Nat):Prop where
 nd:all.Nodup
 cl:∀(j:Nat) (h:j< all.length),j< n->∃l,ue all[j]=some l/\∀s∈l,s∈all
theorem Ae:∀(f:Nat) (all:List Tx) (i:Nat) (out:List Tx),Fs all i->bfs f all i=some out->Fs out out.length/\all<+:out
 | 0,_,_,_,_,h=>by cases h
 | f+1,all,i,out,c,h=>by
  unfold bfs at h;split at h
  ·rename_i I;split at h
   ·cases h
   ·rename_i l V;split at h
    ·exact absurd h (by simp)
    ·have G:all<+:bX all l:=oA;have c2:Fs (bX all l) (i+1):=⟨tf c.nd,λj J W=>by
      by_cases e:j=i
      ·subst e;exact⟨l,by rw [<-G.getElem I];exact V,λs H=>lF.2 (.inr H)⟩
      ·have z:j< all.length:=by omega
       obtain⟨Z,h3,h4⟩:=c.cl j z (by omega);exact⟨Z,by rw [<-G.getElem z];exact h3,λs H=>lF.2 (.inl (h4 s H))⟩⟩
     obtain⟨h1,h2⟩:=Ae f (bX all l) (i+1) out c2 h;exact⟨h1,G.trans h2⟩
  ·rename_i I;cases h;exact⟨⟨c.nd,λj J _=>c.cl j J (by omega)⟩,List.prefix_refl _⟩
theorem zA {s n0:Tx}{all:List Tx}(z:cy s=some n0)(h:dB s=some all):Fs all all.length/\[n0]<+:all:=by
 unfold dB at h;rw [z]at h;exact Ae 62 [n0] 0 all ⟨by simp,λj _ G=>by omega⟩ h
theorem Fs.nx {all:List Tx}(c:Fs all all.length){s:Tx}(h:s∈all):∃l,ue s=some l/\∀x∈l,x∈all:=by
 obtain⟨j,z,rfl⟩:=KA.1 h;exact c.cl j z z
noncomputable def H4 (s:Tx):List Tx:=(ue s).getD []
theorem CL {s:Tx}{l:List Tx}(h:ue s=some l):H4 s=l:=by unfold H4;rw [h];rfl
def Hw (f:Tx->Bool)(s:Tx):Prop:=f s=true/\H4 s≠[]/\∀m∈H4 s,f m=false
def put (f:Tx->Bool)(s:Tx)(b:Bool):Tx->Bool:=λx=>if x=s then b else f x
noncomputable def eh (f:Tx->Bool)(s:Tx):Tx->Bool:=if Hw f s then put f s false else f
noncomputable def yu (l:List Tx)(f:Tx->Bool):Tx->Bool:=l.foldl eh f
noncomputable def Au (l:List Tx)(f:Tx->Bool):Nat->Tx->Bool
 | 0=>f
 | k+1=>yu l (Au l f k)
noncomputable def Cj (l:List Tx):Tx->Bool:=if h:∃k,yu l (Au l (λs=> !decide (dW s)) k)=Au l (λs=> !decide (dW s)) k then Au l (λs=> !decide (dW s)) h.choose else λ _=>false
theorem vG {l:List Tx}{f:Tx->Bool}{k:Nat}(h:yu l (Au l f k)=Au l f k):∀d,Au l f (k+d)=Au l f k
 | 0=>rfl
 | d+1=>by
  show yu l (Au l f (k+d))=_;rw [vG h d,h]
theorem CK {l:List Tx}{k:Nat}{g:Tx->Bool}(H:g=Au l (λs=> !decide (dW s)) k)(h:yu l g=g):Cj l=g:=by
 subst H;unfold Cj;have z:∃k,yu l (Au l (λs=> !decide (dW s)) k)=Au l (λs=> !decide (dW s)) k:=⟨k,h⟩
 rw [dif_pos z];have G:=z.choose_spec;generalize z.choose=m at G;by_cases e:m<=k
 ·obtain⟨d,rfl⟩:=Nat.exists_eq_add_of_le e;exact(vG G d).symm
 ·obtain⟨d,rfl⟩:=Nat.exists_eq_add_of_le (Nat.le_of_not_le e);exact vG h d
def cnt (l:List Tx)(f:Tx->Bool):Nat:=l.countP f
theorem xW {l:List Tx}{f:Tx->Bool}{i:Nat}(h:i< l.length):yu (l.take (i+1)) f=eh (yu (l.take i) f) l[i]:=by
 unfold yu;rw [JG h,List.foldl_append];rfl
theorem Fu {f:Tx->Bool}{s:Tx}:∀{l:List Tx},s∈l->f s=true->cnt l (put f s false)< cnt l f:=by
 intro l G H;have hle:∀l:List Tx,cnt l (put f s false)<=cnt l f:=λl=>List.countP_mono_left λx _ z=>by
  unfold put at z;split at z
  ·cases z
  ·exact z
 induction l with
 | nil=>cases G
 | cons x l I=>
  unfold cnt at*;by_cases e:x=s
  ·subst e;rw [List.countP_cons_of_neg (by simp [put]),List.countP_cons_of_pos H];exact Nat.lt_succ_of_le (hle l)
  ·have G:=(JX.1 G).resolve_left λh=>e h.symm
   have :=I G;have ex:put f s false x=f x:=JV e;by_cases z:f x=true
   ·rw [List.countP_cons_of_pos (by rw [ex];exact z),List.countP_cons_of_pos z];omega
   ·rw [List.countP_cons_of_neg (by rw [ex];exact z),List.countP_cons_of_neg z];omega
def GV (all:List Tx)(f0:Tx->Bool)(again:Bool)(f:Tx->Bool):Prop:=(again=false/\f=f0)\/(again=true/\cnt all f< cnt all f0)
theorem GV.eh {all:List Tx}{f0 f:Tx->Bool}{again:Bool}(h:GV all f0 again f){s:Tx}(G:s∈all)(z:Hw f s):GV all f0 true (eh f s):=by
 unfold Proofs.YtdecokaadekjnaaGreat.eh;rw [Ka z];have :=Fu G z.1;rcases h with⟨_,h⟩ | ⟨_,h⟩
 ·exact .inr ⟨rfl,by rw [<-h];exact this⟩
 ·exact .inr ⟨rfl,by omega⟩
theorem r8 {f:Tx->Bool}{s:Tx}(h:¬Hw f s):eh f s=f:=JV h
end Go.Proofs.YtdecokaadekjnaaGreat
namespace Go.Proofs.YtdecokaadekjnaaGreat
open Go
set_option maxRecDepth 100000
theorem p7 (g1:Value)(w:World)(R:Value->World->Prop)(h:∃c2:List Value,g1= .agg (List.toArray c2)/\aQ w (.cells (List.toArray c2) 49) λb3 w4=>aU w4 b3 0 λv5=>bz v5 λZ=>(0<=((Z:Int):Int)/\((Z:Int):Int)=(Z:Int)/\(Z:Int)<=1099511627776)/\aQ w4 (.cells (List.toArray (List.replicate (Int.toNat (Z:Int)) (.bool false))) 4) λb9 η=>aU η b3 0 λv11=>bz v11 λφ=>fJ 0 η λχ θ V α=>ai (decide (V< (φ:Int))) (aH v11 V λψ ω=>ct α ψ (ω+V.toNat* 1) λs23=>bO 89 #[(.string (ab s23))] α λq24 w25=>aH (.slice (some ⟨b9,0,none⟩) (Int.toNat (Z:Int)) (Int.toNat (Z:Int))) V λb26 o27=>bf w25 b26 (o27+V.toNat* 1) (.bool (!q24)) λι=>aj (V+1)/\χ (V+1) ι/\θ (V+1) ι< θ V α) (Ji true α λI32 κ μ β=>ai μ (aU β b3 0 λv36=>bz v36 λl38=>GS false 0 β λγ W H z G=>ai (decide (z< (l38:Int))) (aH (.slice (some ⟨b9,0,none⟩) (Int.toNat (Z:Int)) (Int.toNat (Z:Int))) z λb45 o46=>B1 G b45 (o46+z.toNat* 1) λq49=>fE (!q49) (aU G b3 2 λv50=>aH v50 z λb51 o52=>aU G b51 (o52+z.toNat* 1) λv55=>bz v55 λl57=>ai (decide ((l57:Int)=0)) (aj (z+1)/\γ H (z+1) G/\W H (z+1) G< W H z G) (aU G b3 2 λv59=>aH v59 z λb60 o61=>aU G b60 (o61+z.toNat* 1) λν=>bz ν λl66=>GS false 0 G λξ δ ε I J=>ai (decide (I< (l66:Int))) (aH ν I λb73 o74=>ct J b73 (o74+I.toNat* 1) λs77=>fE ε (aU J b3 0 λv78=>gn 60 #[v78,(.string (ab s77))] J λο ζ=>aH (.slice (some ⟨b9,0,none⟩) (Int.toNat (Z:Int)) (Int.toNat (Z:Int))) ο λb81 o82=>B1 ζ b81 (o82+ο.toNat* 1) λς=>aj (I+1)/\ξ ς (I+1) ζ/\δ ς (I+1) ζ< δ ε I J) (aj (I+1)/\ξ true (I+1) J/\δ true (I+1) J< δ ε I J)) (ai (!ε) (aH (.slice (some ⟨b9,0,none⟩) (Int.toNat (Z:Int)) (Int.toNat (Z:Int))) z λb86 o87=>bf J b86 (o87+z.toNat* 1) (.bool false) λυ=>aj (z+1)/\γ true (z+1) υ/\W true (z+1) υ< W H z G) (aj (z+1)/\γ H (z+1) J/\W H (z+1) J< W H z G)))) (aj (z+1)/\γ H (z+1) G/\W H (z+1) G< W H z G)) (I32 H G/\κ H G< κ μ β)) (R ((.slice (some ⟨b9,0,none⟩) (Int.toNat (Z:Int)) (Int.toNat (Z:Int)))) β))):
  Calls Tryz.prog 49 #[g1] w (an [.v] R):=
 aY (aZ [(3,[(18,.i)]),(8,[(6,.b)]),(11,[(6,.b),(34,.i)]),(16,[(8,.b),(57,.i)])] [] []) [.tmp 2 .v] [.v g1] Tryz.func49 (by kernel_rfl) h
theorem iD (z:ay)(c2:Value)(w:World)(R:Bool->World->Prop)(h:az c2 λb3 J=>aU w b3 J λv5=>∃(I:Nat) (G:Value->Option Value),v5= .map (some I)/\IsMap w I .string G/\∃H:Bool,∃g9:Bool,((g9=true/\G (.string (ab z))=some (.bool H))\/(g9=false/\G (.string (ab z))=none/\(Value.bool H)=(.bool false)))/\R H w):
  Calls Tryz.prog 94 #[(.string (ab z)),c2] w (an [.b] R):=
 aY (aZ [] [] []) [.tmp 3 .b] [.s z,.v c2] Tryz.func94 (by kernel_rfl) h
theorem jt (r1:Value)(w:World)(R:Value->World->Prop)(h:aQ w (Obj.map #[] 0) λb2 w3=>aQ w3 (.cells #[(.map none)] 62) λb4 w5=>oneV (.map (some b2))=true/\bf w5 b4 0 (.map (some b2)) λw7=>az r1 λb8 o9=>aU w7 b8 (o9+1) λv10=>bz v10 λl12=>fJ 0 w7 λI14 ο J α=>ai (decide (J< (l12:Int))) (aH v10 J λb18 o19=>ct α b18 (o19+J.toNat* 1) λς=>bL α λυ w24=>cC υ b4 0 λv25=>bO 48 #[(.string (ab ς))] w24 λq26 η=>υ η/\∃(β:Nat) (φ:Value->Option Value),v25= .map (some β)/\IsMap η β .string φ/\∀γ:World,IsMap γ β .string (dz φ (.string (ab ς)) (.bool (!q26)))->bY η γ β->aj (J+1)/\I14 (J+1) γ/\ο (J+1) γ< ο J α) (Ji true α λI31 m32 χ W=>ai χ (az r1 λb35 o36=>aU W b35 (o36+1) λv37=>bz v37 λl39=>GS false 0 W λδ I H z G=>ai (decide (z< (l39:Int))) (aH v37 z λb46 o47=>ct G b46 (o47+z.toNat* 1) λV=>aU G b4 0 λv51=>∃(ψ:Nat) (θ:Value->Option Value),v51= .map (some ψ)/\IsMap G ψ .string θ/\∃ι:Bool,∃ω:Bool,((ω=true/\θ (.string (ab V))=some (.bool ι))\/(ω=false/\θ (.string (ab V))=none/\(Value.bool ι)=(.bool false)))/\ai ι (az r1 λb56 o57=>aU G b56 (o57+2) λv58=>∃(r59:Nat) (κ:Value->Option Value),v58= .map (some r59)/\IsMap G r59 .string κ/\∃μ:Value,∃g62:Bool,((g62=true/\κ (.string (ab V))=some μ)\/(g62=false/\κ (.string (ab V))=none/\μ=(.slice none 0 0)))/\bz μ λl64=>ai (decide (0< (l64:Int))) (az r1 λb66 o67=>aU G b66 (o67+2) λv68=>∃(r69:Nat) (ν:Value->Option Value),v68= .map (some r69)/\IsMap G r69 .string ν/\∃ξ:Value,∃g72:Bool,((g72=true/\ν (.string (ab V))=some ξ)\/(g72=false/\ν (.string (ab V))=none/\ξ=(.slice none 0 0)))/\bO 47 #[ξ,(Value.func (Fn.func 94) #[] #[(.pointer (some ⟨b4,0,none⟩))])] G λq73 Z=>ai (!q73) (aU Z b4 0 λv75=>∃(ε:Nat) (m77:Value->Option Value),v75= .map (some ε)/\IsMap Z ε .string m77/\∀ζ:World,IsMap ζ ε .string (dz m77 (.string (ab V)) (.bool false))->bY Z ζ ε->aj (z+1)/\δ true (z+1) ζ/\I true (z+1) ζ< I H z G) (aj (z+1)/\δ H (z+1) Z/\I H (z+1) Z< I H z G)) (aj (z+1)/\δ H (z+1) G/\I H (z+1) G< I H z G)) (aj (z+1)/\δ H (z+1) G/\I H (z+1) G< I H z G)) (I31 H G/\m32 H G< m32 χ W)) (aU W b4 0 λv79=>R v79 W))):
  Calls Tryz.prog 50 #[r1] w (an [.v] R):=
 aY (aZ [(3,[(15,.i)]),(8,[(6,.b)]),(11,[(6,.b),(31,.i)])] [] [5]) [.tmp 2 .v] [.v r1] Tryz.func50 (by kernel_rfl) h
end Go.Proofs.YtdecokaadekjnaaGreat
namespace Go.Proofs.YtdecokaadekjnaaGreat
open Go Go.RowKit T Classical
theorem HG {f:Nat}{ca:List Value}{w:World}{v:Value}{l:List Tx}(h:Strs w v l)(hl:l.length<=1099511627776)(hf:List.contains dD f=true)(H:Tx->Prop)
  (hp:∀s∈l,∀(w':World) (Q:Bool->World->Prop),Ex w w'->(∀w2,Ex w' w2->Q (decide (H s)) w2)->Calls Tryz.prog f (List.toArray ([.string (ab s)]++ca)) w' (an [.b] Q))
  {R:Int->World->Prop} (W:∀w',Ex w w'->(∀(j:Nat) (h:j< l.length),H l[j]->(∀s∈l.take j,¬H s)->R j w')/\((∀s∈l,¬H s)->R (-1) w')):
  Calls Tryz.prog 61 #[v,.func (Fn.func f) #[] ca.toArray] w (an [.i] R):=by
 refine df v _ w _ ?_;obtain⟨ao,cap,hv⟩:=h.slice;refine⟨ao,_,cap,hv,λi w'=>∃j:Nat,i=j/\j<=l.length/\Ex w w'/\∀s∈l.take j,¬H s,λi _=>(l.length - i).toNat,⟨0,rfl,Ks _,Ex.refl w,by simp⟩,λi w' hI=>?_⟩;obtain⟨j,rfl,hj,x,hm⟩:=hI;refine⟨λJ=>?_,λV=>?_⟩
 ·have z:j< l.length:=by simp only [JD]at J;omega
  refine h.get x (i:=j) (x:=l[j]) (by omega) (by rw [JI];exact JC z) (Q:=λn=>_) ⟨f,ca,rfl,hf,?_⟩;refine hp _ (JM z) _ _ x λw2 Z=>⟨λhe=>?_,λG=>?_⟩
  ·exact(W w2 (Ex.trans x Z)).1 j z (by simpa using he) hm
  ·have G:¬H l[j]:=by simpa using G
   refine⟨by unfold aj;omega,⟨j+1,by omega,by omega,Ex.trans x Z,λs I=>?_⟩,by show((l.length:Int) - ((j:Int)+1)).toNat< ((l.length:Int) - j).toNat;omega⟩;rw [JG z,JN,JO]at I;exact I.elim (hm s) λe=>e▸G
 ·have:j=l.length:=by simp only [JE]at V;omega
  rw [this,J3]at hm;exact(W w' x).2 hm
theorem G0 {f:Nat}{ca:List Value}{w:World}{v:Value}{l:List Tx}(h:Strs w v l)(I:l.length<=1099511627776)(J:List.contains dD f=true)(z:Tx->Prop)
  (V:∀s∈l,∀(w':World) (Q:Bool->World->Prop),Ex w w'->(∀w2,Ex w' w2->Q (decide (z s)) w2)->Calls Tryz.prog f (List.toArray ([.string (ab s)]++ca)) w' (an [.b] Q))
  {R:Bool->World->Prop} (H:∀w',Ex w w'->R (decide (∃s∈l,z s)) w'):
  Calls Tryz.prog 47 #[v,.func (Fn.func f) #[] ca.toArray] w (an [.b] R):=by
 refine cF v _ w R ?_;refine HG h I J z V λw' x=>⟨λj W G _=>?_,λZ=>?_⟩
 ·show R (decide (0<=(j:Int))) _;rw [KH (show(0:Int)<=(j:Int) by omega)];have :=H w' x;rw [KH ⟨_,JM W,G⟩]at this;exact this
 ·show R (decide ((0:Int)<= -1)) _;rw [KI (show ¬(0:Int)<= -1 by omega)];have :=H w' x;rw [KI (fun⟨s,h1,h2⟩=>Z s h1 h2)]at this;exact this
noncomputable def Bk (w:World)(r:Nat):Value->Option Value:=match w.heap[r]? with
 | some (.map es _)=>dc es.toList
 | _=>λ _=>none
theorem wG {w:World}{r:Nat}{d:TypeDesc}{m:Value->Option Value}(h:IsMap w r d m):Bk w r=m:=by
 obtain⟨es,clock,z,_,_,G⟩:=h;unfold Bk;rw [z];exact funext λq=>(G q).symm
structure wT (w:World)(r c:Nat)(P:Tx->Prop)(f:Tx->Bool)(w':World):Prop where
 ex:Ex w w'
 lr:w.heap.size<=r
 lc:w.heap.size<=c
 ne:c≠r
 lt:c< w'.heap.size
 c0:w'.cell? ⟨c,0,none⟩=some (.map (some r))
 mp:∃m,IsMap w' r .string m/\∀s,P s->m (.string (ab s))=some (.bool (f s))
section
variable {w w1 w2:World} {r c:Nat} {P:Tx->Prop} {f:Tx->Bool}
theorem wT.to (h:wT w r c P f w1)(x:Ex w1 w2):wT w r c P f w2:=by
 obtain⟨m,z,G⟩:=h.mp;have :=x.size;have :=h.lt;exact⟨Ex.trans h.ex x,h.lr,h.lc,h.ne,by omega,by rw [x.cell (a:=⟨c,0,none⟩) h.lt];exact h.c0,m,gm z (x.block r (gD z)),G⟩
theorem wT.aF (h:wT w r c P f w1){m:Value->Option Value}(hm:IsMap w1 r .string m){s:Tx}{b:Bool}(z:IsMap w2 r .string (dz m (.string (ab s)) (.bool b)))(k:bY w1 w2 r):wT w r c (λx=>P x\/x=s) (put f s b) w2:=by
 obtain⟨m',G,H⟩:=h.mp;have e:m'=m:=(wG G).symm.trans (wG hm);subst e;have kp:=Kp.zy k;have s1:=h.ex.size;have J:=h.lt;have V:=k.size;have W:=h.lr;refine⟨Ex.below h.ex (Kp.below kp s1 λg Z e=>by omega),h.lr,h.lc,h.ne,by omega,by rw [JB (w:=w1) (k.block c h.ne)];exact h.c0,_,z,λx I=>?_⟩;unfold dz put;by_cases e:x=s
 ·rw [Ka e,Ka (by rw [e])]
 ·rw [JV e,JV λh=>e (pc (Value.string.inj h))];exact H x (I.resolve_right e)
theorem wT.cnt {all:List Tx}(h:wT w r c (λs=>s∈all) f w1):Proofs.YtdecokaadekjnaaGreat.cnt all (λs=>decide (Bk w1 r (.string (ab s))=some (.bool true)))=Proofs.YtdecokaadekjnaaGreat.cnt all f:=by
 obtain⟨m,z,G⟩:=h.mp;rw [wG z];unfold Proofs.YtdecokaadekjnaaGreat.cnt;refine List.countP_congr λs H=>?_
 rw [G s H];simp
end
theorem FZ {w w':World}{r c:Nat}{P:Tx->Prop}{f:Tx->Bool}(h:wT w r c P f w'){s:Tx}(z:P s){R:Bool->World->Prop}(G:R (f s) w'):
  Calls Tryz.prog 94 #[.string (ab s),ptr c] w' (an [.b] R):=by
 refine iD s _ w' R ?_;obtain⟨m,H,I⟩:=h.mp;exact⟨c,0,rfl,_,h.c0,r,m,rfl,H,f s,true,.inl ⟨rfl,I s z⟩,G⟩
theorem wT.mono {w w1:World}{r c:Nat}{P z:Tx->Prop}{f G:Tx->Bool}(h:wT w r c P f w1)(H:∀s,z s->P s/\G s=f s):wT w r c z G w1:=by
 obtain⟨m,J,V⟩:=h.mp;exact⟨h.ex,h.lr,h.lc,h.ne,h.lt,h.c0,m,J,λs I=>by rw [(H s I).2];exact V s (H s I).1⟩
theorem Fz {B b r:Nat}{n0:Tx}{w:World}{all:List Tx}{mm:Value->Option Value}{L:Nat->Prop}(h:wL B b r n0 w all all.length mm L)(hl:all.length<=60)(H:∀s∈all,St s)(c:Fs all all.length){R:Value->World->Prop}
  (hR:∀rr m w',Ex w w'->IsMap w' rr .string m->(∀s∈all,m (.string (ab s))=some (.bool (Cj all s)))->R (.map (some rr)) w'):
  Calls Tryz.prog 50 #[ptr b] w (an [.v] R):=by
 refine jt _ w R ?_;intro b2 w3 ς V b4 w5 η I;have x3:Ex w w3:=V▸Ex.alloc w _;have x5:Ex w3 w5:=I▸Ex.alloc w3 _;have s3:w3.heap.size=w.heap.size+1:=by rw [V,size_alloc]
 have s5:w5.heap.size=w3.heap.size+1:=by rw [I,size_alloc]
 have c5:w5.cell? ⟨b4,0,none⟩=some (.map none):=by rw [I,η];exact aa rfl
 refine⟨rfl,⟨⟨_,c5⟩,by rw [I,η];exact aO _ _ _ _⟩,λw7 θ=>?_⟩;have k7:Kp w5 w7 (λg=>g=b4):=θ▸Kr.set w5 0 _;have x7:Ex w w7:=Ex.below (Ex.trans x3 x5) (Kp.below k7 (by omega) λg hg e=>by omega);have s7:=k7.size;have em:w7.heap[b2]?=some (.map #[] 0):=by rw [k7.block b2 (by omega) (by omega),x5.block b2 (by omega),V,ς];unfold World.alloc;simp
 have i7:wT w b2 b4 (λ _=>False) (λs=> !decide (dW s)) w7:=⟨x7,by omega,by omega,by omega,by omega,by rw [θ];exact JT _ _ _ c5,dc [],⟨#[],0,em,⟨by simp,by simp,by simp⟩,by simp,λq=>rfl⟩,λs h=>h.elim⟩
 clear em k7 c5 θ I V;obtain⟨v,hv1,hv2,_⟩:=h.sl;have ι:=hv2.strs;obtain⟨a,cap,hv⟩:=ι.slice;have c1:∀{w'},Ex w w'->w'.cell? ⟨b,0+1,none⟩=some v:=λ{w'} x=>by rw [x.cell (a:=⟨b,0+1,none⟩) h.lt];exact hv1
 refine⟨b,0,rfl,v,c1 x7,a,_,cap,hv,λx w'=>∃j:Nat,x=j/\j<=all.length/\wT w b2 b4 (λs=>s∈all.take j) (λs=> !decide (dW s)) w',λx _=>(all.length - x).toNat,⟨0,rfl,Ks _,i7.mono λs H=>by simp at H⟩,λx w17 hI=>?_⟩;clear i7 x7 s7 s5 s3 x5 x3 η ς;obtain⟨j,rfl,hj,i17⟩:=hI;refine⟨λκ=>?_,λW=>?_⟩
 ·have z:j< all.length:=by simp only [JD]at κ;omega
  refine ι.get i17.ex (i:=j) (x:=all[j]) (by omega) (by rw [JI];exact JC z) (Q:=λn=>_) ?_;refine⟨λw'=>wT w b2 b4 (λs=>s∈all.take j) (λs=> !decide (dW s)) w',λw24 ε=>⟨ε▸i17.to (Ex.drew _),.map (some b2),λw' h=>h.c0,?_⟩⟩;refine wX (H _ (JM z)) λw27 x27=>?_
  have i27:=(i17.to (ε▸Ex.drew _:Ex w17 w24)).to x27;obtain⟨m,hm,_⟩:=i27.mp;refine⟨i27,b2,m,rfl,hm,λw30 υ k30=>⟨by unfold aj;omega,⟨j+1,by omega,by omega,(i27.aF hm υ k30).mono λs H=>⟨?_,?_⟩⟩,by show((all.length:Int) - ((j:Int)+1)).toNat< ((all.length:Int) - j).toNat;omega⟩⟩
  ·rw [JG z,JN,JO]at H;exact H
  ·unfold put;split
   ·rename_i e;rw [e]
   ·rfl
 have z:j=all.length:=by simp only [JE]at W;omega
 rw [z,J3]at i17;refine⟨λa w'=>∃(k:Nat) (f:Tx->Bool),wT w b2 b4 (λs=>s∈all) f w'/\f=Au all (λs=> !decide (dW s)) k/\(a=false->yu all f=f),λa w'=>2* cnt all (λs=>decide (Bk w' b2 (.string (ab s))=some (.bool true)))+a.toNat,⟨0,_,i17,rfl,λh=>by cases h⟩,λa' φ hI=>?_⟩;clear i17 z W hj;obtain⟨k,f,i34,hf,χ⟩:=hI;refine⟨λha=>?_,λha=>?_⟩;rotate_left
 ·obtain⟨m,hm,μ⟩:=i34.mp;have e:=CK hf (χ ha);exact⟨_,i34.c0,hR b2 m φ i34.ex hm λs H=>by rw [e];exact μ s H⟩
 subst ha;refine⟨b,0,rfl,v,c1 i34.ex,a,_,cap,hv,λa' x w'=>∃(j:Nat) (G:Tx->Bool),x=j/\j<=all.length/\wT w b2 b4 (λs=>s∈all) G w'/\G=yu (all.take j) f/\GV all f a' G,λ _ x _=>(all.length - x).toNat,⟨0,f,rfl,Ks _,i34,rfl,.inl ⟨rfl,rfl⟩⟩,λa' x Z hI=>?_⟩;obtain⟨j,G,rfl,hj,i45,α,β⟩:=hI;refine⟨λκ=>?_,λW=>?_⟩;rotate_left
 ·have z:j=all.length:=by simp only [JE]at W;omega
  rw [z,J3]at α;refine⟨⟨k+1,G,i45,by rw [α,hf];rfl,λha=>?_⟩,?_⟩
  ·rcases β with⟨_,e⟩ | ⟨e,_⟩
   ·rw [e];exact α.symm.trans e
   ·rw [e]at ha;cases ha
  ·show 2* cnt all (λs=>decide (Bk Z b2 (.string (ab s))=some (.bool true)))+a'.toNat< 2* cnt all (λs=>decide (Bk φ b2 (.string (ab s))=some (.bool true)))+1;rw [i45.cnt,i34.cnt];rcases β with⟨rfl,e⟩ | ⟨rfl,e⟩
   ·rw [e];simp
   ·simp only [Bool.toNat_true];omega
 have z:j< all.length:=by simp only [JD]at κ;omega
 have ν:=JM z;refine ι.get i45.ex (i:=j) (x:=all[j]) (by omega) (by rw [JI];exact JC z) (Q:=λn=>_) ?_;obtain⟨m,hm,μ⟩:=i45.mp;have et:yu (all.take (j+1)) f=eh G all[j]:=by rw [xW z,<-α]
 have ψ:((all.length:Int) - ((j:Int)+1)).toNat< ((all.length:Int) - j).toNat:=by omega
 have skip:¬Hw G all[j]->∀w',Ex Z w'->aj ((j:Int)+1)/\(∃(j':Nat) (ξ:Tx->Bool),(j:Int)+1=j'/\j'<=all.length/\wT w b2 b4 (λs=>s∈all) ξ w'/\ξ=yu (all.take j') f/\GV all f a' ξ)/\((all.length:Int) - ((j:Int)+1)).toNat< ((all.length:Int) - j).toNat:=
  λJ w' x=>⟨by unfold aj;omega,⟨j+1,G,by omega,by omega,i45.to x,by rw [et,r8 J],β⟩,ψ⟩
 obtain⟨vn,l,ω,ο,hn3,_⟩:=h.nx j z z;have γ:H4 all[j]=l:=CL ο;have δ:=h.ex i45.ex;have ζ:=hn3.ex i45.ex;refine⟨_,i45.c0,b2,m,rfl,hm,G all[j],true,.inl ⟨rfl,μ _ ν⟩,λhy=>?_,λhy=>skip (λJ=>by rw [J.1]at hy;cases hy) Z (Ex.refl _)⟩;obtain⟨al,capl,hvl⟩:=ζ.slice;refine⟨b,0,rfl,_,δ.c2,r,mm,rfl,δ.mp,vn,true,.inl ⟨rfl,ω⟩,al,_,capl,hvl,λhlen=>?_,λhlen=>skip (λJ=>?_) Z (Ex.refl _)⟩;rotate_left
 ·simp only [JE]at hlen;exact J.2.1 (by rw [γ];exact J6 (by omega))
 refine⟨b,0,rfl,_,δ.c2,r,mm,rfl,δ.mp,vn,true,.inl ⟨rfl,ω⟩,?_⟩;obtain⟨l',hl1,hl2⟩:=c.nx ν;rw [ο]at hl1;cases hl1;refine G0 (ca:=[ptr b4]) ζ (by have :=rz ο;omega) (by kernel_rfl) (λs=>G s=true) (λs H w' Q x hQ=>?_) λw74 x74=>⟨λhq=>?_,λhq=>?_⟩
 ·refine FZ (i45.to x) (hl2 s H) ?_;have :=hQ w' (Ex.refl _)
  rwa [Bool.decide_eq_true]at this
 ·have hq:∀s∈l,G s=false:=by simpa using hq
  have hlen:l≠[]:=λe=>by subst e;simp at hlen
  have J:Hw G all[j]:=⟨hy,by rw [γ];exact hlen,by rw [γ];exact hq⟩
  have i74:=i45.to x74;obtain⟨m',hm',_⟩:=i74.mp;refine⟨_,i74.c0,b2,m',rfl,hm',λw78 hm78 k78=>⟨by unfold aj;omega,⟨j+1,eh G all[j],by omega,by omega,(i74.aF hm' hm78 k78).mono λs H=>⟨.inl H,?_⟩,et.symm,β.eh ν J⟩,ψ⟩⟩;unfold eh;rw [Ka J]
 ·exact skip (λJ=>by
   have:∃s∈l,G s=true:=by simpa using hq
   obtain⟨s,h1,h2⟩:=this;rw [J.2.2 s (by rw [γ];exact h1)]at h2;cases h2) w74 x74
theorem CN {p q n0:Tx}{all:List Tx}(G:cy ([40]++p++[38]++q++[41])=some n0)(z:j9 p q=some all):Fs all all.length/\[n0]<+:all:=by
 refine zA G ?_;unfold j9 at z;split at z
 ·exact z
 ·cases z
noncomputable def pe (p t:Tx):Option Nat:=(j9 p t).map λl=>if Cj l (l.headD [])=true then(if ∃s∈l,dW s then 1 else 0)else 2
noncomputable def vw (p t:Tx):Nat:=(pe p t).getD 0
def H3 (p:Tx)(ts:List Tx):Prop:=vk p/\ts.length<=6/\∀t∈ts,(pe p t).isSome=true
noncomputable def qA (p:Tx)(ts:List Tx):List Nat×Bool:=if H3 p ts then(ts.map (vw p),true)else([],false)
theorem B5 (p:Tx)(ts:List Tx):(qA p ts).1.length<=6:=by
 unfold qA;split
 ·rename_i h;rw [JY];exact h.2.1
 ·simp
theorem xa {p:Tx}{ts:List Tx}(h:¬H3 p ts):qA p ts=([],false):=JV h
theorem uI {p:Tx}{ts:List Tx}(h:H3 p ts):qA p ts=(ts.map (vw p),true):=Ka h
theorem AP {p:Tx}{ts:List Tx}{j:Nat}(h:j< ts.length)(z:pe p ts[j]=none):¬H3 p ts:=λG=>by
 have :=G.2.2 _ (JM h);rw [z]at this;cases this
end Go.Proofs.YtdecokaadekjnaaGreat
namespace Go.Proofs.YtdecokaadekjnaaGreat
open Go
set_option maxRecDepth 100000
theorem qF (z:ay)(w:World)(R:ay->Bool->World->Prop)(h:bO 65 #[(.string (ab z))] w λI G=>fE (!I) (bO 66 #[(.string (ab z))] G λJ H=>ai (!J) (R ([]) false H) (iX 150 #[(.string (ab z))] H λV W Z=>R V W Z)) (R ([]) false G)):
  Calls Tryz.prog 101 #[(.string (ab z))] w (an [.s,.b] R):=
 aY (aZ [] [] []) [.tmp 2 .s,.tmp 3 .b] [.s z] Tryz.func101 (by kernel_rfl) h
theorem qI (G:ay)(w:World)(R:ay->ay->World->Prop)(h:I1 G ([]) w λV I z f5 J=>gQ 120 #[(.string (ab z))] J λW H=>ai (decide (W=35)) ((0<=(1:Int)/\(1:Int)<=2/\(2:Int)<=z.length)/\(f5.length+List.length (List.drop (Int.toNat 1) (List.take (Int.toNat 2) z))<=4611686018427387904)/\(0<=(3:Int)/\(3:Int)<=z.length)/\V ((List.drop (Int.toNat 3) z)) ((f5++(List.drop (Int.toNat 1) (List.take (Int.toNat 2) z)))) H/\I ((List.drop (Int.toNat 3) z)) ((f5++(List.drop (Int.toNat 1) (List.take (Int.toNat 2) z)))) H< I z f5 J) (R f5 z H)):
  Calls Tryz.prog 143 #[(.string (ab G))] w (an [.s,.s] R):=
 aY (aZ [(2,[(0,.s),(4,.s)])] [] []) [.tmp 2 .s,.tmp 3 .s] [.s G] Tryz.func143 (by kernel_rfl) h
theorem pa (p1:ay)(w:World)(R:Value->World->Prop)(h:EZ 143 #[(.string (ab p1))] w λs2 s3 w4=>gQ 120 #[(.string (ab s3))] w4 λc5 w6=>ai (decide (c5=48)) (R (.slice none 0 0) w6) (I0 s3 (.slice none 0 0) w6 λI7 m8 Z z H=>gQ 120 #[(.string (ab Z))] H λα I=>ai (decide (α=38)) (bW 117 #[(.string (ab Z))] I λJ V=>aH J 0 λb16 β=>ct V b16 (β+Int.toNat 0* 1) λγ=>aQ V (.cells #[(.string (ab γ))] 9) λδ ε=>eE 9 1 16 ε z (.slice (some ⟨δ,0,none⟩) 1 1) λv28 G=>aH J 1 λb30 ζ=>ct G b30 (ζ+Int.toNat 1* 1) λW=>I7 W v28 G/\m8 W v28 G< m8 Z z H) (aQ I (.cells #[(.string (ab Z))] 9) λη θ=>eE 9 1 16 θ z (.slice (some ⟨η,0,none⟩) 1 1) λι κ=>R ι κ))):
  Calls Tryz.prog 144 #[(.string (ab p1))] w (an [.v] R):=
 aY (aZ [(5,[(0,.s),(3,.v)])] [] []) [.tmp 2 .v] [.s p1] Tryz.func144 (by kernel_rfl) h
theorem qa (t1:ay)(w:World)(R:Value->World->Prop)(h:gQ 120 #[(.string (ab t1))] w λc2 J=>ai (decide (c2=33)) (ai (decide (c2=33)) (bL J λS4 w5=>(0<=(0:Int)/\(0:Int)< t1.length)/\(0<=(2:Int)/\(2:Int)< t1.length)/\(0<=(4:Int)/\(4:Int)<=t1.length)/\gQ 120 #[(.string (ab t1))] w5 λc6 w7=>S4 w7/\aQ w7 (.cells #[(.int .u8 c6.toNat),(.int .u8 (UInt8.toNat (bt t1 (Int.toNat 0)))),(.int .u8 (UInt8.toNat (bt t1 (Int.toNat 2)))),(.string (ab (List.drop (Int.toNat 4) t1))),(.bool false)] 166) λb8 w9=>S4 w9/\R ((.slice (some ⟨b8,0,none⟩) 1 1)) w9) (ai (decide (c2=126)) ((0<=(2:Int)/\(2:Int)<=t1.length)/\aQ J (.cells #[(.int .u8 (UInt8.toNat 126)),(.int .u8 (UInt8.toNat 0)),(.int .u8 (UInt8.toNat 0)),(.string (ab (List.drop (Int.toNat 2) t1))),(.bool false)] 166) λb10 ο=>R ((.slice (some ⟨b10,0,none⟩) 1 1)) ο) (ai (decide (c2=43)) (bW 117 #[(.string (ab t1))] J λv12 ς=>bL ς λH υ=>aH v12 0 λb16 φ=>jh H b16 (φ+Int.toNat 0* 1) λχ=>aH v12 1 λψ ω=>jh H ψ (ω+Int.toNat 1* 1) λs25=>bW 145 #[(.string (ab χ))] υ λv26 Z=>H Z/\bW 145 #[(.string (ab s25))] Z λv28 α=>H α/\eE 166 5 32 α v26 v28 λv35 β=>H β/\R v35 β) (ai (decide (c2=42)) ((0<=(1:Int)/\(1:Int)<=t1.length)/\bW 145 #[(.string (ab (List.drop (Int.toNat 1) t1)))] J λv37 w38=>bz v37 λl40=>fJ 0 w38 λI42 γ z V=>ai (decide (z< (l40:Int))) (aH v37 z λb46 o47=>bf V b46 ((o47+z.toNat* 5)+4) (.bool true) λδ=>aj (z+1)/\I42 (z+1) δ/\γ (z+1) δ< γ z V) (R v37 V)) (R (.slice none 0 0) J))))) (ai (decide (c2=63)) (bL J λε w53=>(0<=(0:Int)/\(0:Int)< t1.length)/\(0<=(2:Int)/\(2:Int)< t1.length)/\(0<=(4:Int)/\(4:Int)<=t1.length)/\gQ 120 #[(.string (ab t1))] w53 λc54 ζ=>ε ζ/\aQ ζ (.cells #[(.int .u8 c54.toNat),(.int .u8 (UInt8.toNat (bt t1 (Int.toNat 0)))),(.int .u8 (UInt8.toNat (bt t1 (Int.toNat 2)))),(.string (ab (List.drop (Int.toNat 4) t1))),(.bool false)] 166) λb56 η=>ε η/\R ((.slice (some ⟨b56,0,none⟩) 1 1)) η) (ai (decide (c2=126)) ((0<=(2:Int)/\(2:Int)<=t1.length)/\aQ J (.cells #[(.int .u8 (UInt8.toNat 126)),(.int .u8 (UInt8.toNat 0)),(.int .u8 (UInt8.toNat 0)),(.string (ab (List.drop (Int.toNat 2) t1))),(.bool false)] 166) λb58 w59=>R ((.slice (some ⟨b58,0,none⟩) 1 1)) w59) (ai (decide (c2=43)) (bW 117 #[(.string (ab t1))] J λθ w61=>bL w61 λI w63=>aH θ 0 λb64 o65=>jh I b64 (o65+Int.toNat 0* 1) λs68=>aH θ 1 λb69 o70=>jh I b69 (o70+Int.toNat 1* 1) λs73=>bW 145 #[(.string (ab s68))] w63 λv74 ι=>I ι/\bW 145 #[(.string (ab s73))] ι λv76 κ=>I κ/\eE 166 5 32 κ v74 v76 λv83 μ=>I μ/\R v83 μ) (ai (decide (c2=42)) ((0<=(1:Int)/\(1:Int)<=t1.length)/\bW 145 #[(.string (ab (List.drop (Int.toNat 1) t1)))] J λv85 w86=>bz v85 λl88=>fJ 0 w86 λI90 ν G W=>ai (decide (G< (l88:Int))) (aH v85 G λb94 o95=>bf W b94 ((o95+G.toNat* 5)+4) (.bool true) λξ=>aj (G+1)/\I90 (G+1) ξ/\ν (G+1) ξ< ν G W) (R v85 W)) (R (.slice none 0 0) J)))))):
  Calls Tryz.prog 145 #[(.string (ab t1))] w (an [.v] R):=
 aY (aZ [(13,[(47,.i)])] [] []) [.tmp 2 .v] [.s t1] Tryz.func145 (by kernel_rfl) h
theorem oy (t1:Value)(i2:Int)(V:Int)(w:World)(R:Value->World->Prop)(h:bz t1 λl5=>mT (.slice none 0 0) 0 w λW I H z G=>ai (decide (z< (l5:Int))) (aH t1 z λZ α=>ct G Z (α+z.toNat* 1) λβ=>ai (!decide (z=i2)) (ai (!decide (z=V)) (aQ G (.cells #[(.string (ab β))] 9) λγ δ=>eE 9 1 16 δ H (.slice (some ⟨γ,0,none⟩) 1 1) λv24 J=>aj (z+1)/\W v24 (z+1) J/\I v24 (z+1) J< I H z G) (aj (z+1)/\W H (z+1) G/\I H (z+1) G< I H z G)) (aj (z+1)/\W H (z+1) G/\I H (z+1) G< I H z G)) (R H G)):
  Calls Tryz.prog 152 #[t1,(.int .i64 i2),(.int .i64 V)] w (an [.v] R):=
 aY (aZ [(3,[(7,.v),(12,.i)])] [] []) [.tmp 6 .v] [.v t1,.i i2,.i V] Tryz.func152 (by kernel_rfl) h
theorem sj (f1:ay)(t2:Value)(w:World)(R:ay->Bool->World->Prop)(h:bz t2 λl4=>ai (decide (0< (l4:Int))) (bj 191 #[t2,(.string (ab [38]))] w λs6 w7=>aj ((f1.length:Int) - 1)/\lC s6 (((f1.length:Int) - 1)) w7 λI8 m9 t10 i11 z=>ai (decide (0<=i11)) (aj (i11+1)/\(0<=(i11:Int)/\(i11:Int)<=(i11+1)/\((i11+1):Int)<=f1.length)/\(List.length [35]+List.length (List.drop i11.toNat (List.take (Int.toNat (i11+1)) f1))<=4611686018427387904)/\(List.length ([35]++(List.drop i11.toNat (List.take (Int.toNat (i11+1)) f1)))+List.length [46]<=4611686018427387904)/\(List.length (([35]++(List.drop i11.toNat (List.take (Int.toNat (i11+1)) f1)))++[46])+t10.length<=4611686018427387904)/\aj (i11 - 1)/\I8 (((([35]++(List.drop i11.toNat (List.take (Int.toNat (i11+1)) f1)))++[46])++t10)) (i11 - 1) z/\m9 (((([35]++(List.drop i11.toNat (List.take (Int.toNat (i11+1)) f1)))++[46])++t10)) (i11 - 1) z< m9 t10 i11 z) (iX 150 #[(.string (ab t10))] z λI J V=>R I J V)) (aj ((f1.length:Int) - 1)/\lC ([48]) (((f1.length:Int) - 1)) w λW H t18 i19 G=>ai (decide (0<=i19)) (aj (i19+1)/\(0<=(i19:Int)/\(i19:Int)<=(i19+1)/\((i19+1):Int)<=f1.length)/\(List.length [35]+List.length (List.drop i19.toNat (List.take (Int.toNat (i19+1)) f1))<=4611686018427387904)/\(List.length ([35]++(List.drop i19.toNat (List.take (Int.toNat (i19+1)) f1)))+List.length [46]<=4611686018427387904)/\(List.length (([35]++(List.drop i19.toNat (List.take (Int.toNat (i19+1)) f1)))++[46])+t18.length<=4611686018427387904)/\aj (i19 - 1)/\W (((([35]++(List.drop i19.toNat (List.take (Int.toNat (i19+1)) f1)))++[46])++t18)) (i19 - 1) G/\H (((([35]++(List.drop i19.toNat (List.take (Int.toNat (i19+1)) f1)))++[46])++t18)) (i19 - 1) G< H t18 i19 G) (iX 150 #[(.string (ab t18))] G λZ α β=>R Z α β))):
  Calls Tryz.prog 151 #[(.string (ab f1)),t2] w (an [.s,.b] R):=
 aY (aZ [(5,[(6,.s),(7,.i)])] [] []) [.tmp 4 .s,.tmp 5 .b] [.s f1,.v t2] Tryz.func151 (by kernel_rfl) h
theorem sn (l1:Value)(w:World)(R:Value->World->Prop)(h:bW 69 #[l1] w λv2 w3=>bz v2 λl5=>mT (.slice none 0 0) 0 w3 λI7 V H z G=>ai (decide (z< (l5:Int))) (aH v2 z λγ δ=>ct G γ (δ+z.toNat* 1) λI=>bz H λε=>fE (decide ((ε:Int)=0)) (bz H λJ=>aj ((J:Int) - 1)/\aH H ((J:Int) - 1) λζ η=>ct G ζ (η+Int.toNat ((J:Int) - 1)* 1) λθ=>ai (!decide (θ=I)) (aQ G (.cells #[(.string (ab I))] 9) λι κ=>eE 9 1 16 κ H (.slice (some ⟨ι,0,none⟩) 1 1) λW Z=>aj (z+1)/\I7 W (z+1) Z/\V W (z+1) Z< V H z G) (aj (z+1)/\I7 H (z+1) G/\V H (z+1) G< V H z G)) (aQ G (.cells #[(.string (ab I))] 9) λμ ν=>eE 9 1 16 ν H (.slice (some ⟨μ,0,none⟩) 1 1) λα β=>aj (z+1)/\I7 α (z+1) β/\V α (z+1) β< V H z G)) (R H G)):
  Calls Tryz.prog 97 #[l1] w (an [.v] R):=
 aY (aZ [(3,[(3,.v),(9,.i)])] [] []) [.tmp 2 .v] [.v l1] Tryz.func97 (by kernel_rfl) h
theorem sW (p1:ay)(w:World)(R:Value->Bool->World->Prop)(h:EZ 143 #[(.string (ab p1))] w λs2 s3 w4=>bW 144 #[(.string (ab p1))] w4 λv5 w6=>bz v5 λl8=>Az true (.slice none 0 0) 0 w6 λI10 m11 f12 o13 V ς=>ai (decide (V< (l8:Int))) (aH v5 V λb16 o17=>ct ς b16 (o17+V.toNat* 1) λs20=>bW 145 #[(.string (ab s20))] ς λv21 w22=>bz v21 λl24=>Az f12 o13 0 w22 λI26 m27 f28 κ J γ=>ai (decide (J< (l24:Int))) (aH v21 J λυ φ=>∃c36:UInt8,∃c37:UInt8,∃c38:UInt8,∃s39:ay,∃q40:Bool,(World.cell? γ ⟨υ,(φ+J.toNat* 5),none⟩=some (.int .u8 c36.toNat)/\World.cell? γ ⟨υ,((φ+J.toNat* 5)+1),none⟩=some (.int .u8 c37.toNat)/\World.cell? γ ⟨υ,(((φ+J.toNat* 5)+1)+1),none⟩=some (.int .u8 c38.toNat)/\World.cell? γ ⟨υ,((((φ+J.toNat* 5)+1)+1)+1),none⟩=some (.string (ab s39))/\World.cell? γ ⟨υ,(((((φ+J.toNat* 5)+1)+1)+1)+1),none⟩=some (.bool q40)/\True)/\aQ γ (.cells #[(.int .u8 0),(.int .u8 0),(.int .u8 0),(.string ⟨#[]⟩),(.bool false)] 166) λμ w42=>vE w42 μ 0 5 [(.int .u8 c36.toNat),(.int .u8 c37.toNat),(.int .u8 c38.toNat),(.string (ab s39)),(.bool q40)] λw43=>∃J44:Bool->Value->World->Prop,(fR w43 μ 0 λc45=>ai (decide (c45=126)) (bL w43 λζ w47=>jh ζ μ 3 λs48=>(bW 152 #[v5,(.int .i64 V),(.int .i64 V)] w47 λv49 w50=>ζ w50/\aQ w50 (.cells #[(.string (ab s48))] 9) λb51 w52=>ζ w52/\eE 9 1 16 w52 v49 (.slice (some ⟨b51,0,none⟩) 1 1) λv58 w59=>ζ w59/\iX 151 #[(.string (ab s2)),v58] w59 λs60 q61 w62=>ζ w62/\∃J63:Bool->ay->World->Prop,(ai f28 (J63 q61 s60 w62) (J63 false s60 w62))/\∀(f64:Bool) (n65:ay) (w66:World),J63 f64 n65 w66->aQ w66 (.cells #[(.string (ab n65))] 9) λb67 w68=>eE 9 1 16 w68 κ (.slice (some ⟨b67,0,none⟩) 1 1) λv74 w75=>J44 f64 v74 w75)/\(aQ w47 (.cells #[(.string (ab s48))] 9) λb76 w77=>ζ w77/\bW 152 #[v5,(.int .i64 V),(.int .i64 V)] w77 λv78 w79=>ζ w79/\eE 9 1 16 w79 v78 (.slice (some ⟨b76,0,none⟩) 1 1) λv85 w86=>ζ w86/\iX 151 #[(.string (ab s2)),v85] w86 λs87 q88 w89=>ζ w89/\∃J90:Bool->ay->World->Prop,(ai f28 (J90 q88 s87 w89) (J90 false s87 w89))/\∀(f91:Bool) (n92:ay) (w93:World),J90 f91 n92 w93->aQ w93 (.cells #[(.string (ab n92))] 9) λb94 w95=>eE 9 1 16 w95 κ (.slice (some ⟨b94,0,none⟩) 1 1) λv101 w102=>J44 f91 v101 w102)) (J44 f28 κ w43))/\∀(f103:Bool) (ν:Value) (η:World),J44 f103 ν η->fR η μ 0 λc106=>ai (!decide (c106=33)) (aj (J+1)/\I26 f103 ν (J+1) η/\m27 f103 ν (J+1) η< m27 f28 κ J γ) (bz v5 λl108=>Az f103 ν 0 η λI110 ξ f112 β G W=>ai (decide (G< (l108:Int))) (aH v5 G λb116 o117=>ct W b116 (o117+G.toNat* 1) λs120=>ai (decide (V=G)) (aj (G+1)/\I110 f112 β (G+1) W/\ξ f112 β (G+1) W< ξ f112 β G W) (bW 145 #[(.string (ab s120))] W λv121 w122=>bz v121 λl124=>Az f112 β 0 w122 λχ δ f128 I z H=>ai (decide (z< (l124:Int))) (aH v121 z λθ ι=>∃c136:UInt8,∃c137:UInt8,∃c138:UInt8,∃s139:ay,∃q140:Bool,(World.cell? H ⟨θ,(ι+z.toNat* 5),none⟩=some (.int .u8 c136.toNat)/\World.cell? H ⟨θ,((ι+z.toNat* 5)+1),none⟩=some (.int .u8 c137.toNat)/\World.cell? H ⟨θ,(((ι+z.toNat* 5)+1)+1),none⟩=some (.int .u8 c138.toNat)/\World.cell? H ⟨θ,((((ι+z.toNat* 5)+1)+1)+1),none⟩=some (.string (ab s139))/\World.cell? H ⟨θ,(((((ι+z.toNat* 5)+1)+1)+1)+1),none⟩=some (.bool q140)/\True)/\aQ H (.cells #[(.int .u8 0),(.int .u8 0),(.int .u8 0),(.string ⟨#[]⟩),(.bool false)] 166) λε w142=>vE w142 ε 0 5 [(.int .u8 c136.toNat),(.int .u8 c137.toNat),(.int .u8 c138.toNat),(.string (ab s139)),(.bool q140)] λZ=>fR Z ε 0 λc144=>fE (!decide (c144=63)) (fR Z ε 1 λc145=>fR Z μ 1 λc146=>ai (!decide (c145=c146)) (aj (z+1)/\χ f128 I (z+1) Z/\δ f128 I (z+1) Z< δ f128 I z H) (bL Z λα w148=>jh α μ 3 λs149=>jh α ε 3 λs150=>H8 α ε 2 λc151=>H8 α μ 2 λc152=>bW 152 #[v5,(.int .i64 V),(.int .i64 G)] w148 λv153 w154=>α w154/\bj 153 #[(.string (ab s150)),(.int .u8 c151.toNat),(.int .u8 c152.toNat)] w154 λs155 w156=>α w156/\aQ w156 (.cells #[(.string (ab s149)),(.string (ab s155))] 9) λb157 w158=>α w158/\eE 9 1 16 w158 v153 (.slice (some ⟨b157,0,none⟩) 2 2) λv164 ο=>α ο/\∃ψ:Value->World->Prop,(B1 ο ε 4 λq167=>ai q167 (aQ ο (.cells #[(.string (ab s120))] 9) λb168 w169=>eE 9 1 16 w169 v164 (.slice (some ⟨b168,0,none⟩) 1 1) λv175 w176=>ψ v175 w176) (ψ v164 ο))/\∀(l177:Value) (w178:World),ψ l177 w178->iX 151 #[(.string (ab s2)),l177] w178 λs179 q180 w181=>∃ω:Bool->ay->World->Prop,(ai f128 (ω q180 s179 w181) (ω false s179 w181))/\∀(f183:Bool) (n184:ay) (w185:World),ω f183 n184 w185->aQ w185 (.cells #[(.string (ab n184))] 9) λb186 w187=>eE 9 1 16 w187 I (.slice (some ⟨b186,0,none⟩) 1 1) λv193 w194=>aj (z+1)/\χ f183 v193 (z+1) w194/\δ f183 v193 (z+1) w194< δ f128 I z H)) (aj (z+1)/\χ f128 I (z+1) Z/\δ f128 I (z+1) Z< δ f128 I z H)) (aj (G+1)/\I110 f128 I (G+1) H/\ξ f128 I (G+1) H< ξ f112 β G W))) (aj (J+1)/\I26 f112 β (J+1) W/\m27 f112 β (J+1) W< m27 f28 κ J γ))) (aj (V+1)/\I10 f28 κ (V+1) γ/\m11 f28 κ (V+1) γ< m11 f12 o13 V ς)) (ai (!f12) (R (.slice none 0 0) false ς) (bW 97 #[o13] ς λv195 w196=>R v195 true w196))):
  Calls Tryz.prog 102 #[(.string (ab p1))] w (an [.v,.b] R):=
 aY (aZ [(6,[(7,.b),(8,.v),(31,.i)]),(9,[(7,.b),(8,.v),(39,.i)]),(17,[(7,.b),(8,.v),(72,.i)]),(21,[(7,.b),(8,.v),(83,.i)])] [(14,[(7,.b),(13,.s)]),(15,[(7,.b),(8,.v)]),(27,[(19,.v)]),(29,[(7,.b),(20,.s)])] []) [.tmp 2 .v,.tmp 3 .b] [.s p1] Tryz.func102 (by kernel_rfl) h
theorem qU (H:Value)(s2:ay)(w:World)(R:Int->World->Prop)(h:bz H λl4=>fJ 0 w λW V z G=>ai (decide (z< (l4:Int))) (aH H z λb10 I=>ct G b10 (I+z.toNat* 1) λJ=>ai (decide (J=s2)) (R z G) (aj (z+1)/\W (z+1) G/\V (z+1) G< V z G)) (R (-1) G)):
  Calls Tryz.prog 60 #[H,(.string (ab s2))] w (an [.i] R):=
 aY (aZ [(2,[(9,.i)])] [] []) [.tmp 4 .i] [.v H,.s s2] Tryz.func60 (by kernel_rfl) h
theorem qV (p1:ay)(w:World)(R:Value->Bool->World->Prop)(h:aQ w (.cells #[(.slice none 0 0),(.slice none 0 0),(.slice none 0 0)] 49) λb2 w3=>aQ w3 (.cells #[(.slice none 0 0),(.slice none 0 0),(.slice none 0 0)] 49) λb4 w5=>vE w5 b4 0 3 [(.slice none 0 0),(.slice none 0 0),(.slice none 0 0)] λw6=>iX 101 #[(.string (ab p1))] w6 λs7 q8 w9=>ai (!q8) (∃v10:Value,∃v11:Value,∃v12:Value,(World.cell? w9 ⟨b4,0,none⟩=some v10/\World.cell? w9 ⟨b4,1,none⟩=some v11/\World.cell? w9 ⟨b4,2,none⟩=some v12/\True)/\vE w9 b2 0 3 [v10,v11,v12] λθ=>∃r14:Value,∃r15:Value,∃r16:Value,(World.cell? θ ⟨b2,0,none⟩=some r14/\World.cell? θ ⟨b2,1,none⟩=some r15/\World.cell? θ ⟨b2,2,none⟩=some r16/\True)/\R (.agg #[r14,r15,r16]) false θ) (aQ w9 (.cells #[(.string (ab s7))] 9) λb17 w18=>oneV (.slice (some ⟨b17,0,none⟩) 1 1)=true/\bf w18 b4 0 (.slice (some ⟨b17,0,none⟩) 1 1) λw20=>aQ w20 (.cells #[(.int .i64 0)] 3) λb21 w22=>oneV (.slice (some ⟨b21,0,none⟩) 1 1)=true/\bf w22 b4 1 (.slice (some ⟨b21,0,none⟩) 1 1) λw24=>fJ 0 w24 λI25 m26 i27 V=>aU V b4 0 λv29=>bz v29 λl31=>ai (decide (i27< (l31:Int))) (aU V b4 0 λv33=>aH v33 i27 λb34 o35=>ct V b34 (o35+i27.toNat* 1) λs38=>jd 102 #[(.string (ab s38))] V λι q40 β=>ai (!q40) (∃v42:Value,∃v43:Value,∃v44:Value,(World.cell? β ⟨b4,0,none⟩=some v42/\World.cell? β ⟨b4,1,none⟩=some v43/\World.cell? β ⟨b4,2,none⟩=some v44/\True)/\vE β b2 0 3 [v42,v43,v44] λκ=>∃r46:Value,∃r47:Value,∃r48:Value,(World.cell? κ ⟨b2,0,none⟩=some r46/\World.cell? κ ⟨b2,1,none⟩=some r47/\World.cell? κ ⟨b2,2,none⟩=some r48/\True)/\R (.agg #[r46,r47,r48]) false κ) (aU β b4 2 λv49=>oneV ι=true/\aQ β (.cells #[ι] 25) λb50 w51=>eE 25 1 24 w51 v49 (.slice (some ⟨b50,0,none⟩) 1 1) λv57 w58=>oneV v57=true/\bf w58 b4 2 v57 λw60=>bz ι λl62=>fJ 0 w60 λγ J z I=>ai (decide (z< (l62:Int))) (aH ι z λb68 o69=>ct I b68 (o69+z.toNat* 1) λs72=>aU I b4 0 λv73=>gn 60 #[v73,(.string (ab s72))] I λn74 μ=>ai (decide (n74< 0)) (aU μ b4 0 λv76=>aQ μ (.cells #[(.string (ab s72))] 9) λb77 w78=>eE 9 1 16 w78 v76 (.slice (some ⟨b77,0,none⟩) 1 1) λv84 w85=>oneV v84=true/\bf w85 b4 0 v84 λw87=>bL w87 λG H=>(aU H b4 1 λv90=>G H/\aU H b4 1 λv91=>G H/\aH v91 i27 λb92 o93=>oH H b92 (o93+i27.toNat* 1) λn96=>G H/\aj (n96+1)/\aQ H (.cells #[(.int .i64 (n96+1))] 3) λb97 w98=>G w98/\eE 3 1 8 w98 v90 (.slice (some ⟨b97,0,none⟩) 1 1) λν ξ=>G ξ/\oneV ν=true/\bf ξ b4 1 ν λδ=>G δ/\aj (z+1)/\γ (z+1) δ/\J (z+1) δ< J z I)/\(aU H b4 1 λv108=>G H/\aH v108 i27 λο ς=>(aU H b4 1 λv113=>G H/\oH H ο (ς+i27.toNat* 1) λn114=>G H/\aj (n114+1)/\aQ H (.cells #[(.int .i64 (n114+1))] 3) λb115 υ=>G υ/\eE 3 1 8 υ v113 (.slice (some ⟨b115,0,none⟩) 1 1) λφ χ=>G χ/\oneV φ=true/\bf χ b4 1 φ λε=>G ε/\aj (z+1)/\γ (z+1) ε/\J (z+1) ε< J z I)/\(oH H ο (ς+i27.toNat* 1) λn126=>G H/\aj (n126+1)/\(aU H b4 1 λv127=>G H/\aQ H (.cells #[(.int .i64 (n126+1))] 3) λb128 ψ=>G ψ/\eE 3 1 8 ψ v127 (.slice (some ⟨b128,0,none⟩) 1 1) λω w136=>G w136/\oneV ω=true/\bf w136 b4 1 ω λζ=>G ζ/\aj (z+1)/\γ (z+1) ζ/\J (z+1) ζ< J z I)/\(aQ H (.cells #[(.int .i64 (n126+1))] 3) λb139 W=>G W/\aU W b4 1 λv141=>G W/\eE 3 1 8 W v141 (.slice (some ⟨b139,0,none⟩) 1 1) λv147 w148=>G w148/\oneV v147=true/\bf w148 b4 1 v147 λη=>G η/\aj (z+1)/\γ (z+1) η/\J (z+1) η< J z I)))) (aj (z+1)/\γ (z+1) μ/\J (z+1) μ< J z I)) (aU I b4 0 λv151=>bz v151 λl153=>ai (decide (60< (l153:Int))) (∃v155:Value,∃v156:Value,∃v157:Value,(World.cell? I ⟨b4,0,none⟩=some v155/\World.cell? I ⟨b4,1,none⟩=some v156/\World.cell? I ⟨b4,2,none⟩=some v157/\True)/\vE I b2 0 3 [v155,v156,v157] λZ=>∃r159:Value,∃r160:Value,∃r161:Value,(World.cell? Z ⟨b2,0,none⟩=some r159/\World.cell? Z ⟨b2,1,none⟩=some r160/\World.cell? Z ⟨b2,2,none⟩=some r161/\True)/\R (.agg #[r159,r160,r161]) false Z) (aj (i27+1)/\I25 (i27+1) I/\m26 (i27+1) I< m26 i27 V)))) (∃v162:Value,∃v163:Value,∃v164:Value,(World.cell? V ⟨b4,0,none⟩=some v162/\World.cell? V ⟨b4,1,none⟩=some v163/\World.cell? V ⟨b4,2,none⟩=some v164/\True)/\vE V b2 0 3 [v162,v163,v164] λα=>∃r166:Value,∃r167:Value,∃r168:Value,(World.cell? α ⟨b2,0,none⟩=some r166/\World.cell? α ⟨b2,1,none⟩=some r167/\World.cell? α ⟨b2,2,none⟩=some r168/\True)/\R (.agg #[r166,r167,r168]) true α))):
  Calls Tryz.prog 54 #[(.string (ab p1))] w (an [.v,.b] R):=
 aY (aZ [(8,[(7,.i)]),(15,[(53,.i)])] [] []) [.agg 2 49,.tmp 3 .b] [.s p1] Tryz.func54 (by kernel_rfl) h
theorem qO (z:ay)(t2:ay)(w:World)(R:Value->Bool->World->Prop)(h:aQ w (.cells #[(.slice none 0 0),(.slice none 0 0),(.slice none 0 0)] 49) λb3 w4=>bO 65 #[(.string (ab z))] w4 λq5 w6=>fE (!q5) (bO 66 #[(.string (ab z))] w6 λq7 w8=>fE (!q7) (bO 65 #[(.string (ab t2))] w8 λq9 W=>fE (!q9) (bO 66 #[(.string (ab t2))] W λφ Z=>ai (!φ) (vE Z b3 0 3 [(.slice none 0 0),(.slice none 0 0),(.slice none 0 0)] λG=>∃α:Value,∃β:Value,∃γ:Value,(World.cell? G ⟨b3,0,none⟩=some α/\World.cell? G ⟨b3,1,none⟩=some β/\World.cell? G ⟨b3,2,none⟩=some γ/\True)/\R (.agg #[α,β,γ]) false G) ((List.length [40]+z.length<=4611686018427387904)/\(List.length ([40]++z)+List.length [38]<=4611686018427387904)/\(List.length (([40]++z)++[38])+t2.length<=4611686018427387904)/\(List.length ((([40]++z)++[38])++t2)+List.length [41]<=4611686018427387904)/\jd 54 #[(.string (ab (((([40]++z)++[38])++t2)++[41])))] Z λχ ψ ω=>∃δ:List Value,χ= .agg (List.toArray δ)/\vE ω b3 0 3 δ λH=>∃ε:Value,∃ζ:Value,∃η:Value,(World.cell? H ⟨b3,0,none⟩=some ε/\World.cell? H ⟨b3,1,none⟩=some ζ/\World.cell? H ⟨b3,2,none⟩=some η/\True)/\R (.agg #[ε,ζ,η]) ψ H)) (vE W b3 0 3 [(.slice none 0 0),(.slice none 0 0),(.slice none 0 0)] λI=>∃θ:Value,∃ι:Value,∃κ:Value,(World.cell? I ⟨b3,0,none⟩=some θ/\World.cell? I ⟨b3,1,none⟩=some ι/\World.cell? I ⟨b3,2,none⟩=some κ/\True)/\R (.agg #[θ,ι,κ]) false I)) (vE w8 b3 0 3 [(.slice none 0 0),(.slice none 0 0),(.slice none 0 0)] λJ=>∃μ:Value,∃ν:Value,∃ξ:Value,(World.cell? J ⟨b3,0,none⟩=some μ/\World.cell? J ⟨b3,1,none⟩=some ν/\World.cell? J ⟨b3,2,none⟩=some ξ/\True)/\R (.agg #[μ,ν,ξ]) false J)) (vE w6 b3 0 3 [(.slice none 0 0),(.slice none 0 0),(.slice none 0 0)] λV=>∃ο:Value,∃ς:Value,∃υ:Value,(World.cell? V ⟨b3,0,none⟩=some ο/\World.cell? V ⟨b3,1,none⟩=some ς/\World.cell? V ⟨b3,2,none⟩=some υ/\True)/\R (.agg #[ο,ς,υ]) false V)):
  Calls Tryz.prog 44 #[(.string (ab z)),(.string (ab t2))] w (an [.v,.b] R):=
 aY (aZ [] [] []) [.agg 4 49,.tmp 5 .b] [.s z,.s t2] Tryz.func44 (by kernel_rfl) h
theorem tw (p1:ay)(k2:UInt8)(w:World)(R:ay->Bool->World->Prop)(h:iX 101 #[(.string (ab p1))] w λs3 q4 w5=>ai (!q4) (R ([]) false w5) (EZ 143 #[(.string (ab s3))] w5 λs6 s7 w8=>bW 144 #[(.string (ab s3))] w8 λv9 ο=>bz v9 λς=>lC ([]) 0 ο λυ ζ δ I α=>ai (decide (I< (ς:Int))) (aH v9 I λφ χ=>ct α φ (χ+I.toNat* 1) λψ=>bW 145 #[(.string (ab ψ))] α λv24 ω=>bz v24 λl27=>lC δ 0 ω λε J H z G=>ai (decide (z< (l27:Int))) (aH v24 z λV W=>∃η:UInt8,∃θ:UInt8,∃ι:UInt8,∃κ:ay,∃μ:Bool,(World.cell? G ⟨V,(W+z.toNat* 5),none⟩=some (.int .u8 η.toNat)/\World.cell? G ⟨V,((W+z.toNat* 5)+1),none⟩=some (.int .u8 θ.toNat)/\World.cell? G ⟨V,(((W+z.toNat* 5)+1)+1),none⟩=some (.int .u8 ι.toNat)/\World.cell? G ⟨V,((((W+z.toNat* 5)+1)+1)+1),none⟩=some (.string (ab κ))/\World.cell? G ⟨V,(((((W+z.toNat* 5)+1)+1)+1)+1),none⟩=some (.bool μ)/\True)/\aQ G (.cells #[(.int .u8 0),(.int .u8 0),(.int .u8 0),(.string ⟨#[]⟩),(.bool false)] 166) λβ w44=>vE w44 β 0 5 [(.int .u8 η.toNat),(.int .u8 θ.toNat),(.int .u8 ι.toNat),(.string (ab κ)),(.bool μ)] λZ=>fR Z β 0 λc46=>ai (decide (c46=k2)) (fR Z β 1 λc47=>bO 56 #[(.string (ab s6)),(.int .u8 c47.toNat)] Z λq48 γ=>ai (!q48) (fR γ β 1 λc50=>bj 121 #[(.string (ab H)),(.int .u8 c50.toNat)] γ λν ξ=>aj (z+1)/\ε ν (z+1) ξ/\J ν (z+1) ξ< J H z G) (aj (z+1)/\ε H (z+1) γ/\J H (z+1) γ< J H z G)) (aj (z+1)/\ε H (z+1) Z/\J H (z+1) Z< J H z G)) (aj (I+1)/\υ H (I+1) G/\ζ H (I+1) G< ζ δ I α)) (R δ true α))):
  Calls Tryz.prog 96 #[(.string (ab p1)),(.int .u8 k2.toNat)] w (an [.s,.b] R):=
 aY (aZ [(7,[(10,.s),(30,.i)]),(10,[(10,.s),(37,.i)])] [] []) [.tmp 4 .s,.tmp 5 .b] [.s p1,.c k2] Tryz.func96 (by kernel_rfl) h
theorem qD (z:ay)(w:World)(R:ay->Bool->World->Prop)(h:iX 96 #[(.string (ab z)),(.int .u8 (UInt8.toNat 33))] w λs2 G H=>R s2 G H):
  Calls Tryz.prog 154 #[(.string (ab z))] w (an [.s,.b] R):=
 aY (aZ [] [] []) [.tmp 2 .s,.tmp 3 .b] [.s z] Tryz.func154 (by kernel_rfl) h
theorem ng (z:ay)(w:World)(R:ay->Bool->World->Prop)(h:iX 96 #[(.string (ab z)),(.int .u8 (UInt8.toNat 63))] w λs2 G H=>R s2 G H):
  Calls Tryz.prog 155 #[(.string (ab z))] w (an [.s,.b] R):=
 aY (aZ [] [] []) [.tmp 2 .s,.tmp 3 .b] [.s z] Tryz.func155 (by kernel_rfl) h
theorem qX (z:ay)(w:World)(R:ay->ay->World->Prop)(h:iX 154 #[(.string (ab z))] w λs2 J G=>iX 155 #[(.string (ab z))] G λH V I=>R s2 H I):
  Calls Tryz.prog 103 #[(.string (ab z))] w (an [.s,.s] R):=
 aY (aZ [] [] []) [.tmp 2 .s,.tmp 3 .s] [.s z] Tryz.func103 (by kernel_rfl) h
theorem pJ (z:ay)(w:World)(R:Bool->World->Prop)(h:EZ 103 #[(.string (ab z))] w λs2 J G=>bO 56 #[(.string (ab s2)),(.int .u8 (UInt8.toNat 119))] G λH I=>R H I):
  Calls Tryz.prog 89 #[(.string (ab z))] w (an [.b] R):=
 aY (aZ [] [] []) [.tmp 2 .b] [.s z] Tryz.func89 (by kernel_rfl) h
theorem tQ (g1:Value)(w:World)(R:Bool->World->Prop)(h:∃c2:List Value,g1= .agg (List.toArray c2)/\aQ w (.cells (List.toArray c2) 49) λb3 w4=>aU w4 b3 0 λv5=>bz v5 λl7=>fJ 0 w4 λI9 I z G=>ai (decide (z< (l7:Int))) (aH v5 z λJ V=>ct G J (V+z.toNat* 1) λW=>bO 89 #[(.string (ab W))] G λZ H=>ai Z (R true H) (aj (z+1)/\I9 (z+1) H/\I (z+1) H< I z G)) (R false G)):
  Calls Tryz.prog 45 #[g1] w (an [.b] R):=
 aY (aZ [(2,[(8,.i)])] [] []) [.tmp 2 .b] [.v g1] Tryz.func45 (by kernel_rfl) h
end Go.Proofs.YtdecokaadekjnaaGreat
namespace Go.Proofs.YtdecokaadekjnaaGreat
open Go Go.RowKit T Classical
theorem Dm (t:P):t.ev T.gd1=t.parts.all λq=>(!decide (t.kind=43)||q.gp)&&q.ev T.gd1:=by
 rw [sN];cases t<;>simp [T.gd1,T.parts,T.kind]
 case sum p q=>
  cases p.gp<;>cases q.gp<;>cases p.ev T.gd1<;>cases q.ev T.gd1<;>rfl
theorem El (t:P):t.ev T.rp1=t.parts.all λq=>(!decide (t.kind=42)||q.isR)&&q.ev T.rp1:=by
 rw [sN];cases t<;>simp [T.rp1,T.parts,T.kind]
theorem A1 (q:P):decide (q.kind∈([33,63,126,43,48]:Tx))=q.gp:=by cases q<;>simp [T.kind,T.gp]
theorem xE (q:P):decide (q.kind=63)=q.isR:=by cases q<;>rfl
theorem yw {X:Type}{l:List X}{f:X->Bool}{k:Nat}(h:k< l.length):(l.take (k+1)).all f=((l.take k).all f&&f l[k]):=by
 rw [JG h,L9];simp
theorem all_false {X:Type}{l:List X}{f:X->Bool}{k:Nat}(h:k< l.length)(z:f l[k]=false):l.all f=false:=by
 rw [List.all_eq_false];exact⟨_,JM h,by rw [z];simp⟩
theorem xg:∀(n:Nat) {t:P},t.size<=n->Ok t->∀{w:World} {R:Bool->World->Prop},(∀w',Ex w w'->R (t.ev T.gd1) w')->Calls Tryz.prog 112 #[.string (ab t.text)] w (an [.b] R):=by
 intro n
 induction n with
 | zero=>intro t h;have :=a6 t;omega
 | succ n ih=>
  intro t hn ok w R h;refine oR _ w R ?_;refine cV ok λv w3 W hs=>?_
  obtain⟨a,cap,hv⟩:=hs.slice;rw [JY]at hv;rw [Dm]at h;refine⟨a,t.parts.length,cap,hv,λx w'=>Ex w3 w'/\∃k:Nat,x=k/\k<=t.parts.length/\(t.parts.take k).all (λq=>(!decide (t.kind=43)||q.gp)&&q.ev T.gd1)=true,λx _=>((t.parts.length:Int) - x).toNat,⟨Ex.refl _,0,rfl,by omega,rfl⟩,λx w4 hI=>?_⟩;obtain⟨G,k,rfl,hk,H⟩:=hI;refine⟨λZ=>?_,λZ=>?_⟩
  ·have z:k< t.parts.length:=by simpa using Z
   have V:t.parts[k]∈t.parts:=JM z;have α:=ok.parts _ V;have β:=dT V;refine hs.get G (i:=k) (by omega) (x:=(t.parts[k]).text) (by simp [z]) ?_;have key:∀{w':World},Ex w3 w'->(!decide (t.kind=43)||t.parts[k].gp)=true->∀I,Ex w' I->((!t.parts[k].ev T.gd1)=true->R false I)/\((!t.parts[k].ev T.gd1)=false->aj ((k:Int)+1)/\(Ex w3 I/\∃j:Nat,(k:Int)+1=j/\j<=t.parts.length/\(t.parts.take j).all (λq=>(!decide (t.kind=43)||q.gp)&&q.ev T.gd1)=true)/\((t.parts.length:Int) - ((k:Int)+1)).toNat< ((t.parts.length:Int) - k).toNat):=λ{w'} x1 hg I x2=>by
    have hx:=Ex.trans x1 x2;refine⟨λJ=>?_,λJ=>⟨by unfold aj;have :=dS t;omega,⟨hx,k+1,by omega,z,?_⟩,by omega⟩⟩
    ·have :=h I (Ex.trans W hx);rw [all_false z (by rw [hg];simpa using J)]at this;exact this
    ·rw [yw z,H,hg];simpa using J
   refine aM ok ⟨λZ=>aM α (gE (by simp) ⟨λJ=>?_,λJ=>?_⟩),λZ=>?_⟩
   ·rw [A1]at J;have hg:t.parts[k].gp=true:=by simpa using J
    exact ih (by omega) α λI x5=>key G (by rw [hg];simp) I x5
   ·rw [A1]at J;have hg:t.parts[k].gp=false:=by simpa using J
    have :=h w4 (Ex.trans W G);rw [all_false z (by rw [Z,hg];rfl)]at this;exact this
   ·exact ih (by omega) α λI x5=>key G (by rw [Z];rfl) I x5
  ·have z:k=t.parts.length:=by simp at Z;omega
   subst z;rw [J3]at H;have :=h w4 (Ex.trans W G);rw [H]at this;exact this
theorem yU:∀(n:Nat) {t:P},t.size<=n->Ok t->∀{w:World} {R:Bool->World->Prop},(∀w',Ex w w'->R (t.ev T.rp1) w')->Calls Tryz.prog 113 #[.string (ab t.text)] w (an [.b] R):=by
 intro n
 induction n with
 | zero=>intro t h;have :=a6 t;omega
 | succ n ih=>
  intro t hn ok w R h;refine pV _ w R ?_;refine cV ok λv w3 W hs=>?_
  obtain⟨a,cap,hv⟩:=hs.slice;rw [JY]at hv;rw [El]at h;refine⟨a,t.parts.length,cap,hv,λx w'=>Ex w3 w'/\∃k:Nat,x=k/\k<=t.parts.length/\(t.parts.take k).all (λq=>(!decide (t.kind=42)||q.isR)&&q.ev T.rp1)=true,λx _=>((t.parts.length:Int) - x).toNat,⟨Ex.refl _,0,rfl,by omega,rfl⟩,λx w4 hI=>?_⟩;obtain⟨G,k,rfl,hk,H⟩:=hI;refine⟨λZ=>?_,λZ=>?_⟩
  ·have z:k< t.parts.length:=by simpa using Z
   have V:t.parts[k]∈t.parts:=JM z;have α:=ok.parts _ V;have β:=dT V;refine hs.get G (i:=k) (by omega) (x:=(t.parts[k]).text) (by simp [z]) ?_;have key:∀{w':World},Ex w3 w'->(!decide (t.kind=42)||t.parts[k].isR)=true->∀I,Ex w' I->((!t.parts[k].ev T.rp1)=true->R false I)/\((!t.parts[k].ev T.rp1)=false->aj ((k:Int)+1)/\(Ex w3 I/\∃j:Nat,(k:Int)+1=j/\j<=t.parts.length/\(t.parts.take j).all (λq=>(!decide (t.kind=42)||q.isR)&&q.ev T.rp1)=true)/\((t.parts.length:Int) - ((k:Int)+1)).toNat< ((t.parts.length:Int) - k).toNat):=λ{w'} x1 hg I x2=>by
    have hx:=Ex.trans x1 x2;refine⟨λJ=>?_,λJ=>⟨by unfold aj;have :=dS t;omega,⟨hx,k+1,by omega,z,?_⟩,by omega⟩⟩
    ·have :=h I (Ex.trans W hx);rw [all_false z (by rw [hg];simpa using J)]at this;exact this
    ·rw [yw z,H,hg];simpa using J
   refine aM ok ⟨λZ=>aM α ⟨λJ=>?_,λJ=>?_⟩,λZ=>?_⟩
   ·rw [xE]at J;have hg:t.parts[k].isR=true:=by simpa using J
    exact ih (by omega) α λI x5=>key G (by rw [hg];simp) I x5
   ·rw [xE]at J;have hg:t.parts[k].isR=false:=by simpa using J
    have :=h w4 (Ex.trans W G);rw [all_false z (by rw [Z,hg];rfl)]at this;exact this
   ·exact ih (by omega) α λI x5=>key G (by rw [Z];rfl) I x5
  ·have z:k=t.parts.length:=by simp at Z;omega
   subst z;rw [J3]at H;have :=h w4 (Ex.trans W G);rw [H]at this;exact this
theorem ju {t:P}(ok:Ok t){w:World}{R:Bool->World->Prop}(h:∀w',Ex w w'->R t.smp w'):Calls Tryz.prog 66 #[.string (ab t.text)] w (an [.b] R):=by
 refine qj _ w R ?_;refine xg _ (JL _) ok λw1 G=>⟨λz=>?_,λz=>?_⟩
 ·refine yU _ (JL _) ok λw2 H=>?_
  have :=h w2 (Ex.trans G H);rw [eA,z,Ln]at this;exact this
 ·have :=h w1 G;rw [eA,z,MV]at this;exact this
theorem uD {p:Tx}:(∃t:P,Good t/\t.text=p)↔∃t:P,t.Al (λc=>lt c=true)/\t.text=p/\cZ p:=by
 constructor
 ·rintro⟨t,h,rfl⟩
  exact⟨t,je.1 h.lw,rfl,lk.1 ⟨t,h,rfl⟩⟩
 ·rintro⟨t,G,rfl,z⟩
  exact lk.2 z
theorem uw {t:P}(h:t.Al λc=>lt c=true)(g:cZ t.text):Ok t:=⟨h.wf,by have :=g.1;omega⟩
theorem Fv {t:P}(h:t.Al λc=>lt c=true)(g:cZ t.text):t.size<=60:=by
 obtain⟨_,I,z,G,H⟩:=g;have :=eu z.wf h.wf G;subst this;exact H
theorem vK {p:Tx}{w:World}{R:Bool->World->Prop}(h:∀b w',Ex w w'->(b=true->∃t:P,t.Al (λc=>lt c=true)/\t.text=p/\cZ p)->(b=false->¬vk p)->R b w'):Calls Tryz.prog 65 #[.string (ab p)] w (an [.b] R):=
 uA λb w' x hb=>h b w' x (λe=>uD.1 (hb.1 e)) λe ⟨t,z,G,H,_⟩=>by
  have :=hb.2 (uD.2 ⟨t,z,G,H⟩);rw [e]at this;cases this
theorem ry {t:P}(h:t.Al λc=>lt c=true)(z:t.smp=false):¬vk t.text:=fun⟨I,G,H,_,h4⟩=>by
 have :=eu G.wf h.wf H;subst this;rw [z]at h4;cases h4
theorem Gl {t:P}(h:t.Al λc=>lt c=true)(g:cZ t.text):nY 0 t σ0 (num t e0 0).1:=by
 have G:=Fv h g;have :=bS t;have nu:=ku h;exact⟨⟨h.wf,by have :=g.1;omega,⟨h.eb 0,by omega⟩,kL h,λy z _ _ e=>by unfold σ0 at e;omega,nu.uq⟩,λz H I=>absurd I (dZ (sS (h.free z H))),nu,λ _ _=>rfl⟩
theorem uF {p:Tx}{w:World}{R:ay->Bool->World->Prop}(h:∀w',Ex w w'->(∀s,cy p=some s->R s true w')/\(cy p=none->R [] false w')):Calls Tryz.prog 101 #[.string (ab p)] w (an [.s,.b] R):=by
 refine qF _ w R ?_;refine vK λb w1 H I J=>⟨λhb=>?_,λhb=>?_⟩
 ·have hb:b=true:=by simpa using hb
  obtain⟨t,G,rfl,V⟩:=I hb;refine ju (uw G V) λw2 W=>⟨λz=>?_,λz=>?_⟩
  ·have z:t.smp=false:=by simpa using z
   exact(h w2 (Ex.trans H W)).2 (gY (ry G z))
  ·have z:t.smp=true:=by simpa using z
   refine zu (Gl G V) λZ x3=>?_
   have :=h Z (Ex.trans (Ex.trans H W) x3);rw [pI G V z]at this;exact this
 ·have hb:b=false:=by simpa using hb
  exact(h w1 H).2 (gY (J hb))
def T.Cl:P->P
 | .res _ p=>p.Cl
 | t=>t
theorem ui:∀{t:P},Ok t->Ok t.Cl/\t.Cl.ths=t.ths/\t.Cl.frL=[]/\t.Cl.text.length<=t.text.length/\(t.Nr->t.Cl.Nr)
 | .res x p,ok=>by
  have h:=ui (t:=p) (ok.parts p (by simp [T.parts]));refine⟨h.1,h.2.1,h.2.2.1,?_,λn=>h.2.2.2.2 n.2⟩;have :=h.2.2.2.1;show p.Cl.text.length<=(35::x::46::p.text).length;simp only [JA];omega
 | .nil,ok=>⟨ok,rfl,rfl,JL _,id⟩
 | .snd ..,ok=>⟨ok,rfl,rfl,JL _,id⟩
 | .rcv ..,ok=>⟨ok,rfl,rfl,JL _,id⟩
 | .tau ..,ok=>⟨ok,rfl,rfl,JL _,id⟩
 | .sum ..,ok=>⟨ok,rfl,rfl,JL _,id⟩
 | .par ..,ok=>⟨ok,rfl,rfl,JL _,id⟩
 | .mat ..,ok=>⟨ok,rfl,rfl,JL _,id⟩
 | .rep ..,ok=>⟨ok,rfl,rfl,JL _,id⟩
theorem zW (t:P):t.frL.length<=t.text.length:=by
 induction t with
 | res x p z=>
  show(x::p.frL).length<=(35::x::46::p.text).length;simp only [JA];omega
 | _=>simp [T.frL]
theorem pM {t:P}(ok:Ok t){w:World}{R:ay->ay->World->Prop}(h:R t.frL t.Cl.text w):Calls Tryz.prog 143 #[.string (ab t.text)] w (an [.s,.s] R):=by
 refine qI _ w R ?_;refine⟨λs f w'=>w'=w/\∃q:P,s=q.text/\Ok q/\t.frL=f++q.frL/\t.Cl=q.Cl,λs _ _=>s.length,⟨rfl,t,rfl,ok,rfl,rfl⟩,λs f w' J=>?_⟩;obtain⟨rfl,q,rfl,z,G,hb⟩:=J;have hlen:=zW t;have W:=ok.len;refine aM z ⟨λH=>?_,λH=>?_⟩
 ·cases q<;>simp [T.kind]at H
  rename_i x p;have e:(T.res x p).text=35::x::46::p.text:=rfl;rw [e];have V:f.length+1<=t.frL.length:=by
   have :=KO List.length G;simp only [T.frL,JJ,JA]at this;omega
  refine⟨⟨by omega,by omega,by simp only [JA];omega⟩,by simp;omega,⟨by omega,by simp only [JA];omega⟩,⟨rfl,p,rfl,z.parts p (by simp [T.parts]),?_,hb⟩,?_⟩
  ·rw [G];show f++(x::p.frL)=(f++[x])++p.frL;simp
  ·show p.text.length< (35::x::46::p.text).length;simp only [JA];omega
 ·have I:q.frL=[]/\q.Cl=q:=by cases q<;>simp [T.kind]at H<;>exact⟨rfl,rfl⟩
  rw [I.1,Kb]at G;rw [<-G];rw [hb,I.2]at h;exact h
theorem qp {t:P}(ok:Ok t)(n:t.Nr){w:World}{R:Value->World->Prop}(h:∀v w',Ex w w'->Own w.heap.size w' v (t.ths.map T.text)->R v w'):Calls Tryz.prog 144 #[.string (ab t.text)] w (an [.v] R):=by
 refine pa _ w R ?_;obtain⟨J,α,μ,hbl,ν⟩:=ui ok;have nb:=ν n;rw [<-α]at h;refine pM ok ?_;have hl:=J.len;generalize t.Cl=q at*;refine aM J ⟨λV=>?_,λV=>?_⟩
 ·cases q<;>simp [T.kind]at V
  exact h _ w (Ex.refl w) (Own.nil _ _)
 ·have hq:q.th=true\/q.isP=true:=by cases q<;>simp [T.kind,T.th,T.isP,T.frL]at V μ|-
  refine⟨λs out w'=>Ex w w'/\∃(r:P) (l:List P),s=r.text/\Ok r/\r.Nr/\(r.th=true\/r.isP=true)/\q.ths=l++r.ths/\l.length+r.text.length<=q.text.length/\Own w.heap.size w' out (l.map T.text),λs _ _=>s.length,⟨Ex.refl w,q,[],rfl,J,nb,hq,rfl,by simp,Own.nil _ _⟩,λs out w' hI=>?_⟩;obtain⟨x,r,l,rfl,W,nr,hr,β,hl3,ho⟩:=hI;have hpos:1<=r.text.length:=by cases r<;>simp [T.text]
  refine aM W ⟨λV=>?_,λV=>?_⟩
  ·cases r<;>simp [T.kind]at V
   rename_i a b;refine pN W λv1 w1 x1 γ ξ=>?_
   have ο:=Ex.trans x x1;refine γ.get (Ex.refl _) (i:=0) (x:=a.text) (by omega) rfl (Q:=λn=>_) λb21 ς δ z=>?_
   have Z:Ex w1 ς:=z▸Ex.alloc w1 _;have G:=Ex.trans ο Z;refine Own.push ((ho.ex x1).ex Z) G.size (Strs.one δ z) (by simp only [JY,JA,JQ];omega) λv28 υ φ ε hg hn=>?_
   have ζ:=Ex.below G φ;have η:Strs υ v1 ((T.par a b).parts.map T.text):=by
    refine(γ.ex Z).grown hg λg χ e=>?_
    have h1:=(ho.block g e).2;have h2:=ξ g χ;omega
   refine η.get (Ex.refl _) (i:=1) (x:=b.text) (by omega) rfl (Q:=λn=>_) ⟨⟨ζ,b,l++[a],rfl,W.parts b (by simp [T.parts]),nr.2.2,nr.1.2,?_,?_,by simpa using ε⟩,?_⟩
   ·rw [β];simp [T.ths]
   ·have:(T.par a b).text.length=a.text.length+b.text.length+3:=by simp [T.text];omega
    simp only [JJ,JA,JQ];omega
   ·have:(T.par a b).text.length=a.text.length+b.text.length+3:=by simp [T.text];omega
    show b.text.length< (T.par a b).text.length;omega
  ·have ψ:r.th=true:=hr.resolve_right λe=>by cases r<;>simp [T.isP]at e;simp [T.kind]at V
   intro b35 ω θ H;have ι:Ex w' ω:=H▸Ex.alloc w' _;have I:=Ex.trans x ι;refine Own.push (ho.ex ι) I.size (Strs.one θ H) (by simp only [JY,JA,JQ];omega) λv42 w43 b43 κ hg hn=>h _ w43 (Ex.below I b43) ?_
   rw [β,nh ψ];simpa using κ
theorem lu {w:World}{v:Value}{l:List Tx}(hs:Strs w v l)(hl:l.length<=1000000000){i j:Nat}{R:Value->World->Prop}(h:∀v' w',Ex w w'->Own w.heap.size w' v' (wo l i j)->R v' w'):
  Calls Tryz.prog 152 #[v,.int .i64 i,.int .i64 j] w (an [.v] R):=by
 refine oy v i j w R ?_;obtain⟨a,cap,hv⟩:=hs.slice;refine⟨a,_,cap,hv,λout x w'=>Ex w w'/\∃k:Nat,x=k/\k<=l.length/\Own w.heap.size w' out (wo (l.take k) i j)/\(wo (l.take k) i j).length<=k,λ _ x _=>((l.length:Int) - x).toNat,⟨Ex.refl w,0,rfl,Ks _,Own.nil _ _,JL _⟩,λout x w' hI=>?_⟩;obtain⟨x,k,rfl,hk,ho,δ⟩:=hI;refine⟨λhc=>?_,λhc=>?_⟩
 ·have z:k< l.length:=by simp only [JD]at hc;omega
  have hm:((l.length:Int) - ((k:Int)+1)).toNat< ((l.length:Int) - k).toNat:=by omega
  have e:wo (l.take (k+1)) i j=wo (l.take k) i j++if !(k==i)&& !(k==j)then [l[k]]else []:=by
   unfold wo;rw [JG z,List.zipIdx_append,Lk,Kz]
   congr 1
   have:(l.take k).length=k:=by rw [Kf];omega
   simp only [List.zipIdx_cons,List.zipIdx_nil,J',this,MF,List.filter_nil];split<;>rfl
  have skip:(!(k==i)&& !(k==j))=false->aj ((k:Int)+1)/\(Ex w w'/\∃V:Nat,(k:Int)+1=V/\V<=l.length/\Own w.heap.size w' out (wo (l.take V) i j)/\(wo (l.take V) i j).length<=V)/\((l.length:Int) - ((k:Int)+1)).toNat< ((l.length:Int) - k).toNat:=λh=>by
   refine⟨by unfold aj;omega,⟨x,k+1,by omega,z,?_⟩,hm⟩;rw [e,h];simp only [LA,Mo,Kb];exact⟨ho,by omega⟩
  refine hs.get x (i:=k) (x:=l[k]) (by omega) (by simp [z]) (Q:=λn=>_) ⟨λI=>⟨λJ=>?_,λJ=>?_⟩,λI=>?_⟩
  ·have I:k≠i:=by simp at I;omega
   have J:k≠j:=by simp at J;omega
   intro ε β W G;have Z:Ex w' β:=G▸Ex.alloc w' _;have H:=Ex.trans x Z;refine Own.push (ho.ex Z) H.size (Strs.one W G) (by simp only [JA,JQ];omega) λv24 ζ γ α hg hn=>⟨by unfold aj;omega,⟨Ex.below H γ,k+1,by omega,z,?_⟩,hm⟩
   rw [e];have:(!(k==i)&& !(k==j))=true:=by simp [I,J]
   rw [this,Ka rfl];exact⟨α,by simp only [JJ,JA,JQ];omega⟩
  ·have J:k=j:=by simp at J;omega
   exact skip (by simp [J])
  ·have I:k=i:=by simp at I;omega
   exact skip (by simp [I])
 ·have:k=l.length:=by simp at hc;omega
  subst this;rw [J3]at ho;exact h _ w' x ho
theorem CO {w:World}{v:Value}{l:List Tx}(hs:Strs w v l)(hl:l.length<=1000000000){R:Value->World->Prop}(h:∀v' w',Ex w w'->Own w.heap.size w' v' (dd (aX l))->R v' w'):
  Calls Tryz.prog 97 #[v] w (an [.v] R):=by
 refine sn v w R ?_;refine nF hs (by omega) λv2 w3 x3 η=>?_
 have hlen:(aX l).length=l.length:=(aN l).length_eq;generalize aX l=m at*;have γ:=η.strs;obtain⟨a,cap,hv⟩:=γ.slice;refine⟨a,_,cap,hv,λout x w'=>Ex w3 w'/\∃k:Nat,x=k/\k<=m.length/\Own w3.heap.size w' out (dd (m.take k)),λ _ x _=>((m.length:Int) - x).toNat,⟨Ex.refl w3,0,rfl,Ks _,Own.nil _ _⟩,λout x w' hI=>?_⟩;obtain⟨x,k,rfl,hk,ho⟩:=hI;refine⟨λhc=>?_,λhc=>?_⟩
 ·have Z:k< m.length:=by simp only [JD]at hc;omega
  have hm:((m.length:Int) - ((k:Int)+1)).toNat< ((m.length:Int) - k).toNat:=by omega
  have e:dd (m.take (k+1))=Ce (dd (m.take k)) m[k]:=by rw [JG Z,jI]
  have θ:=Da (m.take k);rw [Kf]at θ;have push:∀(J:Nat) (z:World),J=w'.heap.size->z=w'.alloc (.cells #[.string (ab m[k])] 9)->(dd (m.take k)).getLast?≠some m[k]->∀{K:Value->World->Prop},(∀W V,(Ex w3 V/\∃k':Nat,(k:Int)+1=k'/\k'<=m.length/\Own w3.heap.size V W (dd (m.take k')))->K W V)->
    ∃(base n k:Nat) (xs news:List Value),World.ownsRow z base 9 1 out n xs/\base<=Array.size (World.heap z)/\dN z (.slice (some ⟨J,0,none⟩) 1 1) k 1 news/\(n+k<=maxLen/\(n+k)* 16<=140737488355328)/\
   ∀(v':Value) (w':World),World.ownsRow w' base 9 1 v' (n+k) (xs++news)->World.grownBy z w' (Value.ownBlock out)->(∀b:Nat,Value.ownBlock v'=some b->Value.ownBlock out=some b\/Array.size (World.heap z)<=b)->K v' w':=λJ z I G H {K} hK=>by
   have δ:Ex w' z:=G▸Ex.alloc w' _;have α:=Ex.trans x δ;refine Own.push (ho.ex δ) α.size (Strs.one I G) (by simp only [JA,JQ];omega) λW V ι ε hg hn=>hK _ _ ⟨Ex.below α ι,k+1,by omega,Z,?_⟩
   rw [e];unfold Ce;rw [JV H];exact ε
  refine γ.get x (i:=k) (x:=m[k]) (by omega) (by simp [Z]) (Q:=λn=>_) ?_;obtain⟨ao,β,ζ⟩:=ho.strs.slice;refine⟨ao,_,β,ζ,λhz=>?_,λhz=>?_⟩
  ·have hz:(dd (m.take k)).length≠0:=by
    intro e0;simp [e0]at hz
   refine⟨ao,_,β,ζ,by unfold aj;omega,ho.strs.get (Ex.refl _) (i:=((dd (m.take k)).length:Int) - 1) (x:=(dd (m.take k)).getLast (λe=>hz (by rw [e];rfl))) (by omega) ?_ (Q:=λn=>_) ⟨λH=>?_,λH=>?_⟩⟩
   ·rw [show(((dd (m.take k)).length:Int) - 1).toNat=(dd (m.take k)).length - 1 by omega,<-L7,List.getLast?_eq_some_getLast]
   ·have H:(dd (m.take k)).getLast?≠some m[k]:=by
     rw [List.getLast?_eq_some_getLast (λe=>hz (by rw [e];rfl))];simpa using H
    exact λJ z I G=>push J z I G H λW V hI=>⟨by unfold aj;omega,hI,hm⟩
   ·have H:(dd (m.take k)).getLast?=some m[k]:=by
     rw [List.getLast?_eq_some_getLast (λe=>hz (by rw [e];rfl))];simpa using H
    exact⟨by unfold aj;omega,⟨x,k+1,by omega,Z,by rw [e];unfold Ce;rw [Ka H];exact ho⟩,hm⟩
  ·have hz:dd (m.take k)=[]:=by
    refine J6 ?_;simpa using hz
   exact λJ z I G=>push J z I G (by rw [hz];simp) λW V hI=>⟨by unfold aj;omega,hI,hm⟩
 ·have:k=m.length:=by simp at hc;omega
  subst this;rw [J3]at ho;exact h _ w' (Ex.trans x3 x) (ho.mono x3.size)
theorem C2 {f:Tx}{G:List P}{v:Value}{w:World}{u:U}(hs:Strs w v (G.map T.text))(hl:dy (G.map T.text)<=1000000000)(d:nY 0 (resL f (parL G)) σ0 u){R:ay->Bool->World->Prop}
  (h:∀w',Ex w w'->(∀s,jY u=some s->R s true w')/\(jY u=none->R [] false w')):Calls Tryz.prog 151 #[.string (ab f),v] w (an [.s,.b] R):=by
 refine sj f v w R ?_;obtain⟨a,cap,hv⟩:=hs.slice;have I:=d.den.len;have z:=px (parL G) f;rw [z,fA]at I;have α:G≠[]->joinS 38 (G.map T.text)=(parL G).text:=λH=>(pj H).symm
 have β:G=[]->(parL G).text=[48]:=λe=>by rw [e];rfl
 refine⟨a,_,cap,hv,λJ=>?_,λJ=>?_⟩
 ·have H:G≠[]:=by
   intro e;simp [e]at J
  refine tM hs (by simpa using H) (by omega) ?_;rw [α H];revert z I;generalize (parL G).text=body;intro I z;refine⟨by unfold aj;omega,λs i w'=>w'=w/\∃m:Nat,i=(m:Int) - 1/\m<=f.length/\s=wrap (f.drop m) body,λ _ i _=>(i+1).toNat,⟨rfl,f.length,rfl,JL _,by rw [Ld];rfl⟩,λs i w' hI=>?_⟩;obtain⟨rfl,m,rfl,hm,rfl⟩:=hI;refine⟨λJ=>?_,λJ=>?_⟩
  ·obtain⟨m,rfl⟩:∃k,m=k+1:=⟨m - 1,by simp at J;omega⟩
   have V:m< f.length:=by omega
   have e:(((m+1:Nat):Int) - 1)=(m:Int):=by omega
   have W:=pX V body;have Z:=fA (f.drop (m+1)) body;rw [K1]at Z;rw [e,vP V];refine⟨by unfold aj;omega,⟨by omega,by omega,by omega⟩,by simp,by simp,by simp only [JJ,JA,JQ];omega,by unfold aj;omega,⟨rfl,m,rfl,by omega,?_⟩,by show((m:Int) - 1+1).toNat< ((m:Int)+1).toNat;omega⟩;rw [W];rfl
  ·have:m=0:=by simp at J;omega
   subst this;rw [Ll,<-z];exact zu d h
 ·have H:G=[]:=by
   cases G with
   | nil=>rfl
   | cons=>simp at J
  rw [<-β H];revert z I;generalize (parL G).text=body;intro I z;refine⟨by unfold aj;omega,λs i w'=>w'=w/\∃m:Nat,i=(m:Int) - 1/\m<=f.length/\s=wrap (f.drop m) body,λ _ i _=>(i+1).toNat,⟨rfl,f.length,rfl,JL _,by rw [Ld];rfl⟩,λs i w' hI=>?_⟩;obtain⟨rfl,m,rfl,hm,rfl⟩:=hI;refine⟨λJ=>?_,λJ=>?_⟩
  ·obtain⟨m,rfl⟩:∃k,m=k+1:=⟨m - 1,by simp at J;omega⟩
   have V:m< f.length:=by omega
   have e:(((m+1:Nat):Int) - 1)=(m:Int):=by omega
   have W:=pX V body;have Z:=fA (f.drop (m+1)) body;rw [K1]at Z;rw [e,vP V];refine⟨by unfold aj;omega,⟨by omega,by omega,by omega⟩,by simp,by simp,by simp only [JJ,JA,JQ];omega,by unfold aj;omega,⟨rfl,m,rfl,by omega,?_⟩,by show((m:Int) - 1+1).toNat< ((m:Int)+1).toNat;omega⟩;rw [W];rfl
  ·have:m=0:=by simp at J;omega
   subst this;rw [Ll,<-z];exact zu d h
def cM (e B:Nat)(w:World)(v:Value)(n:Nat)(xs:List Value):Prop:=w.ownsRow B e 5 v n xs
section
variable {e B:Nat} {w w':World} {v:Value} {n:Nat} {xs:List Value}
theorem cM.nil (e B:Nat)(w:World):cM e B w (.slice none 0 0) 0 []:=World.ownsRow_nil _ _ _ _
theorem cM.block (h:cM e B w v n xs):∀b,v.ownBlock=some b->B<=b/\b< w.heap.size:=MH h
theorem cM.mono {z:Nat}(h:cM e B w v n xs)(hb:z<=B):cM e z w v n xs:=MR h hb
theorem cM.kp {S:Nat->Prop}(h:cM e B w v n xs)(k:Kp w w' S)(G:∀g,v.ownBlock=some g->¬S g):cM e B w' v n xs:=by
 refine⟨h.1,?_⟩;rcases h.2 with H | ⟨g,cap,cur,rfl,hb,z,rest⟩
 ·exact .inl H
 ·exact .inr ⟨g,cap,cur,rfl,hb,by rw [k.block g (Kj.1 z).1 (G g rfl)];exact z,rest⟩
theorem cM.ex (h:cM e B w v n xs)(x:Ex w w'):cM e B w' v n xs:=h.kp (Kp.ah x λ _=>False) λ _ _ h=>h
theorem cM.cell (h:cM e B w v n xs):(v= .slice none 0 0/\n=0/\xs=[])\/∃g cap,v= .slice (some ⟨g,0,none⟩) n cap/\g< w.heap.size/\∀j u,xs[j]?=some u->w.cell? ⟨g,0+j,none⟩=some u:=by
 have z:=h.1;rcases h.2 with⟨I,G⟩ | ⟨g,cap,cur,rfl,hb,H,V,W,Z,h4⟩
 ·left;refine⟨I,G,J6 (by rw [z,G])⟩
 ·refine .inr ⟨g,cap,rfl,(Kj.1 H).1,λj u hu=>?_⟩;have J:j< xs.length:=(Ky.1 hu).1;unfold World.cell?;simp only [H,J'];rw [<-h4,K7 (by rw [<-z];exact J),Lg]at hu;exact hu
theorem cM.src (h:cM e B w v n xs)(ha:xs.all oneV=true):dN w v n 5 xs:=by
 refine⟨h.1,ha,?_⟩;rcases h.cell with⟨rfl,rfl,_⟩ | ⟨g,cap,rfl,_,z⟩
 ·exact .inl ⟨rfl,rfl⟩
 ·exact .inr ⟨g,0,cap,rfl,z⟩
theorem cM.one {b:Nat}{cs:List Value}(z:cs.length=5)(hB:B<=w.heap.size)(hb:b=w.heap.size)(h:w'=w.alloc (.cells cs.toArray e)):cM e B w' (.slice (some ⟨b,0,none⟩) 1 1) 1 cs:=by
 subst hb h;refine⟨by rw [z],.inr ⟨_,1,cs.toArray,rfl,hB,?_,by simp,by unfold maxLen;omega,by simp [z],Mj (by simp [z])⟩⟩;unfold World.alloc;simp
theorem cM.push {x:Value}{m by_:Nat}{G:List Value}(h:cM e B w v n xs)(hB:B<=w.heap.size)(I:dN w x m 5 G)(H:by_<=48)(Z:n+m<=1099511627776){K:Value->World->Prop}
  (J:∀v' w',cM e B w' v' (n+m) (xs++G)->w.grownBy w' v.ownBlock->(∀b,v'.ownBlock=some b->v.ownBlock=some b\/w.heap.size<=b)->K v' w'):
  ∃(base n' m':Nat) (z news:List Value),World.ownsRow w base e 5 v n' z/\base<=Array.size (World.heap w)/\dN w x m' 5 news/\(n'+m'<=maxLen/\(n'+m')* by_<=140737488355328)/\
   ∀(v':Value) (w':World),World.ownsRow w' base e 5 v' (n'+m') (z++news)->World.grownBy w w' (Value.ownBlock v)->(∀b:Nat,Value.ownBlock v'=some b->Value.ownBlock v=some b\/Array.size (World.heap w)<=b)->K v' w':=
 ⟨B,n,m,xs,G,h,hB,I,⟨by unfold maxLen;omega,by have :=MU (JL (n+m)) H;omega⟩,λv' w' V W hw=>J v' w' V W hw⟩
theorem cM.set {g cap j:Nat}{x:Value}(h:cM e B w (.slice (some ⟨g,0,none⟩) n cap) n xs)(hw:w'=w.setCell ⟨g,j,none⟩ x)(hj:j< xs.length):cM e B w' (.slice (some ⟨g,0,none⟩) n cap) n (xs.set j x):=by
 subst hw;rcases h.2 with⟨G,_⟩ | ⟨g',z,cur,H,hb,I,J,V,W,h4⟩
 ·cases G
 ·cases H;have Z:=h.1;have e:(w.setCell ⟨g,j,none⟩ x).heap[g]?=some (.cells (cur.setIfInBounds j x) e (0,0)):=by
   rw [Sort.setCell_eq];simp [Sort.mapBlock,Lx,I,Sort.onCells]
  refine⟨by rw [La];exact Z,.inr ⟨g,cap,_,by simp,hb,e,by simpa using J,V,by simpa using W,?_⟩⟩;rw [Array.toList_setIfInBounds,List.take_set,h4]
theorem cM.fr (h:cM e B w v n xs){g:Nat}(G:v.ownBlock=some g)(j:Nat):w.frozen? ⟨g,j,none⟩=false:=by
 rcases h.2 with⟨rfl,I⟩ | ⟨H,cap,cur,rfl,hb,z,_⟩
 ·cases G
 ·have e:H=g:=Kt G;subst e;unfold World.frozen?;simp only [z];simp
end
def fI (k a b:UInt8)(s:Tx)(q:Bool):List Value:=[.int .u8 k.toNat,.int .u8 a.toNat,.int .u8 b.toNat,.string (ab s),.bool q]
def tP:Off UInt8->List Value->Prop
 | .tau p,cs=>∃a b s,cs=fI 126 a b p.text s
 | .snd a b p,cs=>∃s,cs=fI 33 a b p.text s
 | .rcv a x q s,cs=>cs=fI 63 a x q.text s
def fu:List (Off UInt8)->List Value->Prop
 | [],xs=>xs=[]
 | o::os,xs=>∃cs z,xs=cs++z/\tP o cs/\fu os z
theorem tP.any {o:Off UInt8}{cs:List Value}(h:tP o cs):∃(k a b:UInt8) (s:Tx) (q:Bool),cs=fI k a b s q:=by
 cases o with
 | tau p=>obtain⟨a,b,s,h⟩:=h;exact⟨_,_,_,_,_,h⟩
 | snd a b p=>obtain⟨s,h⟩:=h;exact⟨_,_,_,_,_,h⟩
 | rcv a b p s=>exact⟨_,_,_,_,_,h⟩
theorem fu.app:∀{os z:List (Off UInt8)} {xs G:List Value},fu os xs->fu z G->fu (os++z) (xs++G)
 | [],_,xs,G,h,k=>by cases h;exact k
 | o::os,_,xs,G,⟨cs,zs,H,I,J⟩,k=>⟨cs,zs++G,by rw [H,Kg],I,J.app k⟩
theorem fu.len:∀{os:List (Off UInt8)} {xs:List Value},fu os xs->xs.length=os.length* 5/\xs.all oneV=true
 | [],xs,h=>by cases h;exact⟨rfl,rfl⟩
 | o::os,xs,⟨cs,zs,z,G,H⟩=>by
  obtain⟨h4,h5⟩:=H.len;obtain⟨k,a,b,s,q,e⟩:=G.any;subst z e;exact⟨by simp [fI,h4];omega,by rw [L9,h5];rfl⟩
theorem fu.at:∀{os:List (Off UInt8)} {xs:List Value},fu os xs->∀{i:Nat} (I:i< os.length),∃cs,tP os[i] cs/\∀j,j< 5->xs[i* 5+j]?=cs[j]?
 | o::os,xs,⟨cs,zs,G,z,J⟩,0,_=>⟨cs,z,λj V=>by
   obtain⟨k,a,b,s,q,e⟩:=z.any;have W:cs.length=5:=by rw [e];rfl
   rw [G,List.getElem?_append_left (by omega)];congr 1;omega⟩
 | o::os,xs,⟨cs,zs,G,z,J⟩,i+1,I=>by
   obtain⟨H,Z,k2⟩:=J.at (i:=i) (by simpa using I);refine⟨H,Z,λj V=>?_⟩;obtain⟨k,a,b,s,q,e⟩:=z.any;have W:cs.length=5:=by rw [e];rfl
   rw [G,List.getElem?_append_right (by omega),<-k2 j V];congr 1;omega
theorem fu.one {o:Off UInt8}{cs:List Value}(h:tP o cs):fu [o] cs:=⟨cs,[],by simp,h,rfl⟩
abbrev tO:Nat:=166
theorem ni:∀(n:Nat) {t:P},t.size<=n->Ok t->t.smp=true->t.size<=1000000->∀{w:World} {R:Value->World->Prop},(∀v w' xs,Ex w w'->cM tO w.heap.size w' v (offs t).length xs->fu (offs t) xs->R v w')->Calls Tryz.prog 145 #[.string (ab t.text)] w (an [.v] R):=by
 intro n
 induction n with
 | zero=>intro t h;have :=a6 t;omega
 | succ n ih=>
  intro t hn ok hs ω w R h;refine qa _ w R ?_;refine aM ok ?_;have none_:offs t=[]->R (.slice none 0 0) w:=λe=>by
   have :=h (.slice none 0 0) w [] (Ex.refl w);rw [e]at this;exact this (cM.nil _ _ _) rfl
  cases t with
  | nil=>repeat' first | exact none_ rfl | refine aS (by simp [T.kind]) ?_
  | par p q=>repeat' first | exact none_ rfl | refine aS (by simp [T.kind]) ?_
  | res x p=>repeat' first | exact none_ rfl | refine aS (by simp [T.kind]) ?_
  | mat a b p=>repeat' first | exact none_ rfl | refine aS (by simp [T.kind]) ?_
  | snd a b p=>
   refine cS rfl (cS rfl ⟨λ _=>True,λw5 γ=>⟨trivial,⟨by omega,by simp [T.text];omega⟩,⟨by omega,by simp [T.text];omega⟩,⟨by omega,by simp [T.text];omega⟩,aM ok ⟨trivial,λb8 w9 H z=>⟨trivial,?_⟩⟩⟩⟩);have x5:Ex w w5:=γ▸Ex.drew w;exact h _ w9 _ (Ex.trans x5 (z▸Ex.alloc w5 _)) (cM.one (cs:=fI 33 a b p.text false) rfl x5.size H z) (fu.one ⟨false,rfl⟩)
  | rcv a b p=>
   refine aS (by simp [T.kind]) (cS rfl ⟨λ _=>True,λw5 γ=>⟨trivial,⟨by omega,by simp [T.text];omega⟩,⟨by omega,by simp [T.text];omega⟩,⟨by omega,by simp [T.text];omega⟩,aM ok ⟨trivial,λb8 w9 H z=>⟨trivial,?_⟩⟩⟩⟩);have x5:Ex w w5:=γ▸Ex.drew w;exact h _ w9 _ (Ex.trans x5 (z▸Ex.alloc w5 _)) (cM.one (cs:=fI 63 a b p.text false) rfl x5.size H z) (fu.one rfl)
  | tau p=>
   refine aS (by simp [T.kind]) (aS (by simp [T.kind]) (cS rfl ⟨⟨by omega,by simp [T.text];omega⟩,λb8 w9 H z=>?_⟩));exact h _ w9 _ (z▸Ex.alloc w _) (cM.one (cs:=fI 126 0 0 p.text false) rfl (JL _) H z) (fu.one ⟨0,0,false,rfl⟩)
  | sum p q=>
   have hs:(p.gp&&q.gp&&(p.smp&&q.smp))=true:=hs;simp only [JF]at hs;have δ:=ok.parts p (by simp [T.parts]);have ξ:=ok.parts q (by simp [T.parts]);have e:(T.sum p q).size=p.size+q.size+1:=by simp only [T.size]
   refine aS (by simp [T.kind]) (aS (by simp [T.kind]) (aS (by simp [T.kind]) (cS rfl (cV ok λv1 w1 x1 θ=>⟨λw'=>Ex w1 w',λο α=>⟨α▸Ex.drew w1,?_⟩⟩))));have G:Ex w1 ο:=α▸Ex.drew w1;refine θ.DC (i:=0) (x:=p.text) (by omega) rfl (Q:=λn=>_) (θ.DC (i:=1) (x:=q.text) (by omega) rfl (Q:=λn=>_) ?_);have I:=Ex.trans x1 G;refine ih (by omega) δ hs.2.1 (by omega) λv26 w27 xs J V ι=>⟨Ex.trans G J,ih (by omega) ξ hs.2.2 (by omega) λv28 ς ys W κ β=>⟨Ex.trans G (Ex.trans J W),?_⟩⟩
   have Z:=Ex.trans I (Ex.trans J W);have l1:=fF p;have l2:=fF q;refine cM.push ((V.ex W).mono I.size) Z.size (κ.src β.len.2) (by omega) (by omega) λv35 μ ho hg hn=>?_
   have υ:Below w.heap.size ς μ:=Below.grown (M0 _ _) hg Z.size λk hk=>by have :=(V.block k hk).1;have :=I.size;omega
   refine⟨Le (Ex.trans G (Ex.trans J W)) ?_,h _ μ _ (Ex.below Z υ) (by rw [show(offs (T.sum p q)).length=(offs p).length+(offs q).length from JJ];exact ho) (ι.app β)⟩;exact Below.grown (M0 _ _) hg (Ex.trans G (Ex.trans J W)).size λk hk=>by have :=(V.block k hk).1;have :=G.size;omega
  | rep p=>
   have ε:(p.isR&&p.smp)=true:=hs;simp only [JF]at ε;have δ:=ok.parts p (by simp [T.parts]);refine aS (by simp [T.kind]) (aS (by simp [T.kind]) (aS (by simp [T.kind]) (aS (by simp [T.kind]) (cS rfl ⟨⟨by omega,by simp [T.text];omega⟩,?_⟩))));have e:(T.rep p).size=p.size+1:=by simp only [T.size]
   refine ih (t:=p) (by omega) δ ε.2 (by omega) λv w1 xs x1 ho hm=>?_
   cases p<;>try (simp [T.isR]at ε;done)
   rename_i a b q;obtain⟨cs,ys,rfl,ζ,rfl⟩:=hm;have ζ:cs=fI 63 a b q.text false:=ζ;subst ζ;have φ:(offs (T.rcv a b q)).length=1:=rfl;rw [φ]at ho;rcases ho.cell with⟨_,h0,_⟩ | ⟨g,cap,rfl,hg,hc⟩
   ·cases h0
   have χ:=ho.fr (g:=g) rfl;have ψ:=(ho.block g rfl).1;refine⟨_,_,cap,rfl,λx w'=>(x=0/\w'=w1)\/(x=1/\w'=w1.setCell ⟨g,4,none⟩ (.bool true)),λx _=>(1 - x).toNat,.inl ⟨rfl,rfl⟩,λx w' hI=>⟨λη=>?_,λη=>?_⟩⟩
   ·rcases hI with⟨rfl,rfl⟩ | ⟨rfl,_⟩
    ·have c4:w'.cell? ⟨g,4,none⟩=some (.bool false):=hc 4 _ rfl;refine⟨g,0,_,cap,rfl,by omega,by omega,⟨⟨_,c4⟩,χ 4⟩,λw51 ν=>⟨by unfold aj;omega,.inr ⟨rfl,ν⟩,by show((1:Int) - (0+1)).toNat< ((1:Int) - 0).toNat;decide⟩⟩
    ·simp at η
   ·rcases hI with⟨rfl,_⟩ | ⟨_,rfl⟩
    ·simp at η
    ·exact h _ _ _ (Ex.own x1 ψ _) (ho.set rfl (by simp [fI])) (fu.one rfl)
def Gr (w0:World)(o0:Value)(w:World)(o:Value):Prop:=Kp w0 w (λg=>o0.ownBlock=some g)/\∀g,o.ownBlock=some g->o0.ownBlock=some g\/w0.heap.size<=g
theorem Gr.refl (w:World)(o:Value):Gr w o w o:=⟨Kp.ah (Ex.refl w) _,λ _ h=> .inl h⟩
theorem Gr.size {w0 w:World}{o0 o:Value}(h:Gr w0 o0 w o):w0.heap.size<=w.heap.size:=h.1.size
theorem Gr.trans {a b c:World}{z G H:Value}(h:Gr a z b G)(k:Gr b G c H):Gr a z c H:=
 ⟨Kp.trans h.1 k.1 λg I e=>(h.2 g e).resolve_right λJ=>by omega,λg I=>(k.2 g I).elim (λe=>h.2 g e) λe=> .inr (KD h.1.size e)⟩
theorem Gr.ex {w0 w w':World}{o0 o:Value}(h:Gr w0 o0 w o)(x:Ex w w'):Gr w0 o0 w' o:=h.trans ⟨Kp.ah x _,λ _ e=> .inl e⟩
theorem Gr.grown {w0 w w':World}{o0 o z:Value}(h:Gr w0 o0 w o)(G:w.grownBy w' o.ownBlock)(H:∀g,z.ownBlock=some g->o.ownBlock=some g\/w.heap.size<=g):Gr w0 o0 w' z:=
 h.trans ⟨Kp.aP G λ _ e=>e,H⟩
theorem Gr.nil {w0 w:World}{o0 o:Value}(h:Gr w0 o0 w o)(z:o0.ownBlock=none):Ex w0 w:=by
 obtain⟨k,_⟩:=h;exact⟨k.os,k.tape,k.output,k.size,λg G=>k.block g G (by rw [z];simp)⟩
structure nG (B:Nat)(w0:World)(o0:Value)(fine:Bool)(out:Value)(w:World)(acc:List U):Prop where
 gr:Gr w0 o0 w out
 ow:Own B w out (outs acc)
 fi:fine=jb acc
 hB:B<=w0.heap.size
section
variable {B:Nat} {w0 w w':World} {o0 out:Value} {fine:Bool} {acc:List U}
theorem nG.ex (h:nG B w0 o0 fine out w acc)(x:Ex w w'):nG B w0 o0 fine out w' acc:=⟨h.gr.ex x,h.ow.ex x,h.fi,h.hB⟩
theorem nG.start (h:nG B w0 o0 fine out w acc):nG B w out fine out w acc:=⟨Gr.refl _ _,h.ow,h.fi,KD h.hB h.gr.size⟩
theorem nG.back {w1:World}{G H:Value}{f2:Bool}{z:List U}(h:nG B w0 o0 fine G w1 acc)(k:nG B w1 G f2 H w z):nG B w0 o0 f2 H w z:=⟨h.gr.trans k.gr,k.ow,k.fi,h.hB⟩
theorem nG.lt (h:nG B w0 o0 fine out w acc):∀g,out.ownBlock=some g->g< w.heap.size:=λg z=>(h.ow.block g z).2
theorem yF (l:List U):(outs l).length=l.length:=by unfold outs;simp
theorem GC (h:nG B w0 o0 fine out w acc)(hl:acc.length<=1000000000){vv:U}{s:ay}{q:Bool}(hs:s=(jY vv).getD [])(hq:q=(jY vv).isSome){K:Bool->Value->World->Prop}(hK:∀fn v' w',nG B w0 o0 fn v' w' (acc++[vv])->K fn v' w'):
  ∃J:Bool->ay->World->Prop,((fine=true->J q s w)/\(fine=false->J false s w))/\∀(fn:Bool) (nx:ay) (I:World),J fn nx I->∀(δ:Nat) (G:World),δ=Array.size (World.heap I)->G=World.alloc I (Obj.cells #[(Value.string (ab nx))] 9)->
   ∃(z Z α:Nat) (β H:List Value),World.ownsRow G z 9 1 out Z β/\z<=Array.size (World.heap G)/\dN G (Value.slice (some ⟨δ,0,none⟩) 1 1) α 1 H/\(Z+α<=maxLen/\(Z+α)* 16<=140737488355328)/\
   ∀(V:Value) (W:World),World.ownsRow W z 9 1 V (Z+α) (β++H)->World.grownBy G W (Value.ownBlock out)->(∀b:Nat,Value.ownBlock V=some b->Value.ownBlock out=some b\/Array.size (World.heap G)<=b)->K fn V W:=by
 have e2:jb (acc++[vv])=(fine&&q):=by
  rw [uC,hq,h.fi];simp [jb]
 refine⟨λfn nx w'=>fn=jb (acc++[vv])/\nx=s/\w'=w,⟨λhf=>⟨by rw [e2,hf,Ln],rfl,rfl⟩,λhf=>⟨by rw [e2,hf,MV],rfl,rfl⟩⟩,λfn nx I hJ δ G ζ γ=>?_⟩;obtain⟨η,rfl,rfl⟩:=hJ;have ε:Ex I G:=γ▸Ex.alloc I _;refine Own.push (h.ow.ex ε) (KD h.hB (KD h.gr.size ε.size)) (Strs.one ζ γ) (by rw [yF];simp only [JA,JQ];omega) λV W θ ho hg hn=>hK fn V W ⟨(h.gr.ex ε).grown hg hn,?_,η,h.hB⟩
 rw [yz,show outs [vv]=[nx] by rw [hs];rfl];exact ho
end
theorem Cz {f:Tx}{z:List P}{v:Value}{w:World}{u:U}(G:Strs w v (z.map T.text))(H:dy (z.map T.text)<=1000000000)(d:nY 0 (resL f (parL z)) σ0 u){R:ay->Bool->World->Prop}
  (h:∀s q w',Ex w w'->s=(jY u).getD []->q=(jY u).isSome->R s q w'):Calls Tryz.prog 151 #[.string (ab f),v] w (an [.s,.b] R):=
 C2 G H d λw' x=>⟨λs e=>h s true w' x (by rw [e];rfl) (by rw [e];rfl),λe=>h [] false w' x (by rw [e];rfl) (by rw [e];rfl)⟩
theorem Ba {c:Nat}:∀{l:List Tx},(∀s∈l,s.length<=c)->dy l<=l.length* (c+3)
 | [],_=>by simp [dy]
 | s::l,h=>by
  have G:=h s (by simp);have H:=Ba (c:=c) (l:=l) λx z=>h x (by simp [z])
  rw [dP,JA,Nat.succ_mul];omega
theorem u0 {X:Type}(l:List X)(i j:Nat):(wo l i j).length<=l.length:=by
 unfold wo;rw [JY];exact KD (LG _ _) (by simp)
theorem D6 {X Y:Type}(f:X->Y)(l:List X)(i j:Nat):wo (l.map f) i j=(wo l i j).map f:=by
 rw [zL,zL,vb]
theorem lens {u:U}(γ:u.size<=60):u.ths.length<=60/\(∀i (h:i< u.ths.length),(offs u.ths[i]).length<=60)/\(∀i k c d p (l:List (Off Nat)),l.length<=60->(l.flatMap (E3 u i k c d p)).length<=60)/\(∀i c d p k,k<=u.ths.length->((List.range k).flatMap (E2 u i c d p)).length<=3600)/\
  (∀i j (h:i< u.ths.length),(((offs u.ths[i]).take j).flatMap (E1 u i)).length<=216000)/\∀i,i<=u.ths.length->((List.range i).flatMap (E0 u)).length<=12960000:=by
 have J:u.ths.length<=60:=by have :=wE u;omega
 have H:∀i (h:i< u.ths.length),(offs u.ths[i]).length<=60:=λi h=>by
  have I:=fF u.ths[i];have h2:=eg u _ (JM h);omega
 have V:∀i k c d p (l:List (Off Nat)),l.length<=60->(l.flatMap (E3 u i k c d p)).length<=60:=λi k c d p l hl=>by
  have I:=ik (f:=E3 u i k c d p) (c:=1) (l:=l) λx _=>by
   cases x with
   | rcv e' x q s=>unfold E3;simp only;split<;>simp
   | _=>simp [E3]
  omega
 have α:∀i c d p k,k< u.ths.length->(E2 u i c d p k).length<=60:=λi c d p k hk=>by
  unfold E2;split
  ·simp
  ·rw [cN hk];exact V i k c d p _ (H k hk)
 have z:∀i c d p k,k<=u.ths.length->((List.range k).flatMap (E2 u i c d p)).length<=3600:=λi c d p k hk=>by
  have I:=ik (f:=E2 u i c d p) (c:=60) (l:=List.range k) λx Z=>α i c d p x (by have :=K2.1 Z;omega)
  rw [LO]at I;omega
 have β:∀i o,(E1 u i o).length<=3600:=λi o=>by
  cases o with
  | tau p=>simp [E1]
  | rcv=>simp [E1]
  | snd c d p=>exact z i c d p _ (JL _)
 have G:∀i j (h:i< u.ths.length),(((offs u.ths[i]).take j).flatMap (E1 u i)).length<=216000:=λi j h=>by
  have I:=ik (f:=E1 u i) (c:=3600) (l:=(offs u.ths[i]).take j) λx _=>β i x
  rw [Kf]at I;have :=H i h;omega
 refine⟨J,H,V,z,G,λi hi=>?_⟩;have I:=ik (f:=E0 u) (c:=216000) (l:=List.range i) λx Z=>by
  have Z:=K2.1 Z;have W:x< u.ths.length:=by omega
  have :=G x (offs u.ths[x]).length W;rw [J3]at this;unfold E0;rw [cN W];exact this
 rw [LO]at I;omega
abbrev tS:Nat:=9
def B8 (w:World)(v src:Value)(K:Value->World->Prop):Prop:=
 ∃(base n m:Nat) (xs news:List Value),World.ownsRow w base tS 1 v n xs/\base<=Array.size (World.heap w)/\dN w src m 1 news/\(n+m<=maxLen/\(n+m)* 16<=140737488355328)/\
  ∀(v':Value) (w':World),World.ownsRow w' base tS 1 v' (n+m) (xs++news)->World.grownBy w w' (Value.ownBlock v)->(∀b:Nat,Value.ownBlock v'=some b->Value.ownBlock v=some b\/Array.size (World.heap w)<=b)->K v' w'
theorem Ai {B:Nat}{w:World}{v x:Value}{l m:List Tx}(h:Own B w v l)(hB:B<=w.heap.size)(z:Strs w x m)(G:l.length+m.length<=1099511627776){K:Value->World->Prop}(H:∀v' w',Below B w w'->Own B w' v' (l++m)->K v' w'):B8 w v x K:=
 Own.push h hB z G λv' w' b o _ _=>H v' w' b o
def FJ (w:World)(out:Value)(fine:Bool)(s:ay)(q:Bool)(K:Bool->Value->World->Prop):Prop:=
 ∃J:Bool->ay->World->Prop,((fine=true->J q s w)/\(fine=false->J false s w))/\∀(fn:Bool) (nx:ay) (z:World),J fn nx z->∀(G:Nat) (H:World),G=Array.size (World.heap z)->H=World.alloc z (Obj.cells #[(Value.string (ab nx))] tS)->B8 H out (Value.slice (some ⟨G,0,none⟩) 1 1) (K fn)
theorem Is {z:List P}(h:∀q∈z,q.aJ<=300)(G:z.length<=63):dy (z.map T.text)<=1000000000:=by
 have H:=Ba (c:=300) (l:=z.map T.text) λs I=>by
  obtain⟨q,J,rfl⟩:=Kk.1 I;rw [aT];exact h q J
 rw [JY]at H;have :=MU G (JL 303);omega
theorem wh {t:P}(ok:lZ t):t.ths.length<=60/\∀q∈t.ths,q.size<=60/\q.aJ<=300:=by
 have H:=ok.size;have G:∀t:P,t.ths.length<=t.size/\∀q∈t.ths,q.size<=t.size:=by
  intro t
  induction t with
  | nil=>simp [T.ths]
  | par p q _ z=>
   refine⟨by have :=z.1;simp only [T.ths,JA,T.size];omega,λr hr=>?_⟩;rcases JX.1 hr with rfl | hr
   ·simp only [T.size];omega
   ·have :=z.2 r hr;simp only [T.size];omega
  | res x p z=>exact⟨by have :=z.1;simp only [T.ths,T.size];omega,λr hr=>by have :=z.2 r hr;simp only [T.size];omega⟩
  | _=>simp [T.ths,T.size]
 refine⟨by have :=(G t).1;omega,λq I=>?_⟩;have J:=(G t).2 q I;have V:=dQ q;omega
theorem DN {w w':World}{b:Nat}{x y:Tx}(hb:b=w.heap.size)(h:w'=w.alloc (.cells #[.string (ab x),.string (ab y)] tS)):Strs w' (.slice (some ⟨b,0,none⟩) 2 2) [x,y]:=by
 subst hb h;refine .inr ⟨_,0,2,rfl,by rw [size_alloc];omega,λi z G=>?_⟩;rw [J'];refine aa ?_
 match i,G with
 | 0,G=>simp at G|-;exact G▸rfl
 | 1,G=>simp at G|-;exact G▸rfl
 | i+2,G=>simp at G
section
variable {t:P} {u:U} {w:World} {v5 out:Value} {b1 b2 B:Nat} {fine:Bool} {acc:List U}
theorem Hy (ok:lZ t)(su:SU t u){i:Nat}(hi:i< t.ths.length)(hi':i< u.ths.length){p:P}{p':U}(ho:Off.tau p∈offs t.ths[i])(ho':Off.tau p'∈offs u.ths[i])(hae:qz UInt8.toNat (λz=>(asg u.frL t.frL ρ0 z).toNat) (.tau p) (.tau p'))
  (hv:Strs w v5 (t.ths.map T.text)) (hb:b1< w.heap.size) (hc:w.cell? ⟨b1,3,none⟩=some (.string (ab p.text))) (hI:nG B w out fine out w acc) (hl:acc.length<=1000000000) {J:Bool->Value->World->Prop} (hJ:∀fn v' w',nG B w out fn v' w' (acc++[H6 u i p'])->J fn v' w'):
  ∃G:World->Prop,∀H:World,H=World.drew w->G H/\∃ζ:ay,(∀w',G w'->World.cell? w' ⟨b1,3,none⟩=some (Value.string (ab ζ)))/\
   (Calls Tryz.prog 152 #[v5,(Value.int IntKind.i64 i),(Value.int IntKind.i64 i)] H (an [.v] fun(v49:Value) (W:World)=>G W/\∀(η:Nat) (α:World),η=Array.size (World.heap W)->α=World.alloc W (Obj.cells #[(Value.string (ab ζ))] tS)->G α/\B8 α v49 (Value.slice (some ⟨η,0,none⟩) 1 1) λν θ=>G θ/\Calls Tryz.prog 151 #[(Value.string (ab t.frL)),ν] θ (an [.s,.b] fun(s60:ay) (q61:Bool) (ξ:World)=>G ξ/\FJ ξ out fine s60 q61 J)))/\
   (∀(ι:Nat) (β:World),ι=Array.size (World.heap H)->β=World.alloc H (Obj.cells #[(Value.string (ab ζ))] tS)->G β/\Calls Tryz.prog 152 #[v5,(Value.int IntKind.i64 i),(Value.int IntKind.i64 i)] β (an [.v] fun(ο:Value) (κ:World)=>G κ/\B8 κ ο (Value.slice (some ⟨ι,0,none⟩) 1 1) λv85 μ=>G μ/\Calls Tryz.prog 151 #[(Value.string (ab t.frL)),v85] μ (an [.s,.b] fun(s87:ay) (q88:Bool) (ς:World)=>G ς/\FJ ς out fine s87 q88 J))):=by
 obtain⟨hn,υ⟩:=wh ok;have φ:=JM hi;have hpl:p.aJ<=300:=by
  have h1:=(aW (su.smpP _ φ) _ ho).1.size;have h2:=(υ _ φ).1;have h3:=dQ p;simp only [Off.tm,T.size]at h1;omega
 have hwl:=u0 t.ths i i;have hbound:dy ((wo t.ths i i++[p]).map T.text)<=1000000000:=by
  refine Is (λq hq=>?_) (by rw [JJ,Lh];omega);rcases JN.1 hq with hq | hq
  ·exact(υ _ (lE hq)).2
  ·cases JO.1 hq;exact hpl
 have den:=(AR ok su hi hi' ho ho' hae).1;have e:wo (t.ths.map T.text) i i++[p.text]=(wo t.ths i i++[p]).map T.text:=by rw [D6,Kz];rfl
 have χ:(wo (t.ths.map T.text) i i).length+[p.text].length<=1099511627776:=by
  have :=u0 (t.ths.map T.text) i i;rw [JY]at this;simp only [JA,JQ];omega
 have mk:∀{v':Value} {w':World},Ex w w'->Strs w' v' ((wo t.ths i i++[p]).map T.text)->Calls Tryz.prog 151 #[(Value.string (ab t.frL)),v'] w' (an [.s,.b] fun(s:ay) (q:Bool) (w2:World)=>Ex w w2/\FJ w2 out fine s q J):=λx hs=>
  Cz hs hbound den λs q w2 x2 h1 h2=>⟨Ex.trans x x2,GC (hI.ex (Ex.trans x x2)) hl h1 h2 hJ⟩
 refine⟨λw'=>Ex w w',λH ψ=>?_⟩;have Z:Ex w H:=ψ▸Ex.drew w;refine⟨Z,p.text,λw' x=>by rw [x.cell (a:=⟨b1,3,none⟩) hb];exact hc,?_,λι β ω δ=>?_⟩
 ·refine lu (hv.ex Z) (by rw [JY];omega) λv49 W x50 o50=>⟨Ex.trans Z x50,λη α hb51 ε=>?_⟩
  have x52:Ex W α:=ε▸Ex.alloc W _;have I:=Ex.trans x50 x52;refine⟨Ex.trans Z I,Ai (o50.ex x52) I.size (Strs.one hb51 ε) χ λν θ b59 o59=>?_⟩;have x59:=Ex.trans Z (Ex.below I b59);exact⟨x59,mk x59 (e▸o59.strs)⟩
 ·have x77:Ex H β:=δ▸Ex.alloc H _;have V:=Ex.trans Z x77;refine⟨V,lu (hv.ex V) (by rw [JY];omega) λο κ γ o79=>⟨Ex.trans V γ,Ai o79 γ.size ((Strs.one ω δ).ex γ) χ λv85 μ b86 o86=>?_⟩⟩;have x86:=Ex.trans V (Ex.below γ b86);exact⟨x86,mk x86 (e▸o86.strs)⟩
theorem EF (ok:lZ t)(su:SU t u){i k:Nat}(hi:i< t.ths.length)(hi':i< u.ths.length)(hk:k< t.ths.length)(φ:k< u.ths.length)(hik:i≠k){a b:UInt8}{p:P}{c d:Nat}{p':U}(ho:Off.snd a b p∈offs t.ths[i])(ho':Off.snd c d p'∈offs u.ths[i])
  (hae:qz UInt8.toNat (λz=>(asg u.frL t.frL ρ0 z).toNat) (.snd a b p) (.snd c d p')) {e x:UInt8} {q:P} {s:Bool} {e' x':Nat} {q':U} {s':Bool} (hr:Off.rcv e x q s∈offs t.ths[k]) (hr':Off.rcv e' x' q' s'∈offs u.ths[k])
  (har:qz UInt8.toNat (λz=>(asg u.frL t.frL ρ0 z).toNat) (.rcv e x q s) (.rcv e' x' q' s'))
  (hv:Strs w v5 (t.ths.map T.text)) (hb:b1< w.heap.size) (hb2:b2< w.heap.size) (hc2:w.cell? ⟨b1,2,none⟩=some (.int .u8 b.toNat)) (hc3:w.cell? ⟨b1,3,none⟩=some (.string (ab p.text))) (hd2:w.cell? ⟨b2,2,none⟩=some (.int .u8 x.toNat)) (hd3:w.cell? ⟨b2,3,none⟩=some (.string (ab q.text))) (hd4:w.cell? ⟨b2,4,none⟩=some (.bool s))
  (hI:nG B w out fine out w acc) (hl:acc.length<=1000000000) {J:Bool->Value->World->Prop} (hJ:∀fn v' w',nG B w out fn v' w' (acc++[Ci u i k p' (q'.map (Ff (NN u) q' x' d)) s'])->J fn v' w'):
  ∃G:World->Prop,∀α:World,α=World.drew w->G α/\∃ψ:ay,(∀w',G w'->World.cell? w' ⟨b1,3,none⟩=some (Value.string (ab ψ)))/\∃ω:ay,(∀w',G w'->World.cell? w' ⟨b2,3,none⟩=some (Value.string (ab ω)))/\∃c151:UInt8,(∀w',G w'->World.cell? w' ⟨b2,2,none⟩=some (Value.int IntKind.u8 (UInt8.toNat c151)))/\∃c152:UInt8,(∀w',G w'->World.cell? w' ⟨b1,2,none⟩=some (Value.int IntKind.u8 (UInt8.toNat c152)))/\
   Calls Tryz.prog 152 #[v5,(Value.int IntKind.i64 i),(Value.int IntKind.i64 k)] α (an [.v] fun(v153:Value) (θ:World)=>G θ/\Calls Tryz.prog 153 #[(Value.string (ab ω)),(Value.int IntKind.u8 (UInt8.toNat c151)),(Value.int IntKind.u8 (UInt8.toNat c152))] θ (an [.s] fun(s155:ay) (W:World)=>G W/\∀(ζ:Nat) (Z:World),ζ=Array.size (World.heap W)->Z=World.alloc W (Obj.cells #[(Value.string (ab ψ)),(Value.string (ab s155))] tS)->G Z/\B8 Z v153 (Value.slice (some ⟨ζ,0,none⟩) 2 2) λv164 H=>G H/\
    ∃ι:Value->World->Prop,(∃κ:Bool,World.cell? H ⟨b2,4,none⟩=some (Value.bool κ)/\(κ=true->∀(μ:Nat) (η:World),μ=Array.size (World.heap H)->η=World.alloc H (Obj.cells #[(Value.string (ab t.ths[k].text))] tS)->B8 η v164 (Value.slice (some ⟨μ,0,none⟩) 1 1) ι)/\(κ=false->ι (v164) H))/\
    ∀(β:Value) (ν:World),ι β ν->Calls Tryz.prog 151 #[(Value.string (ab t.frL)),β] ν (an [.s,.b] fun(s179:ay) (q180:Bool) (w181:World)=>FJ w181 out fine s179 q180 J))):=by
 obtain⟨hn,χ⟩:=wh ok;have hmP:=JM hi;have hmK:=JM hk;have hmU:=JM φ;obtain⟨sP,_⟩:=aW (su.smpP _ hmP) _ ho;obtain⟨sK,_⟩:=aW (su.smpP _ hmK) _ hr;have hpl:p.aJ<=300:=by
  have h1:=sP.size;have h2:=(χ _ hmP).1;have h3:=dQ p;simp only [Off.tm,T.size]at h1;omega
 have hqs:q.size<=60:=by
  have h1:=sK.size;have h2:=(χ _ hmK).1;simp only [Off.tm,T.size]at h1;omega
 obtain⟨hq1,hq2,hq3⟩:=H9 ok su hk hr;have alb:=(sP.al _ (su.al _ hmP)).2.1;have hwl:=u0 t.ths i k;have ew:wo (t.ths.map T.text) i k=(wo t.ths i k).map T.text:=D6 _ _ _ _;have uqr:=su.kH φ (aW (su.smp _ hmU) _ hr').1 (fZ _ hr');have hss:s=s':=har.2.2;have umc:Ci u i k p' (q'.map (Ff (NN u) q' x' d)) s'=resL u.frL (parL (bG u.ths i k p' (q'.map (Ff (NN u) q' x' d)) s' u.ths[k])):=by unfold Ci;rw [cN φ]
 refine⟨λw'=>Ex w w',λα hw148=>?_⟩;have I:Ex w α:=hw148▸Ex.drew w;refine⟨I,p.text,λw' x=>by rw [x.cell (a:=⟨b1,3,none⟩) hb];exact hc3,q.text,λw' x=>by rw [x.cell (a:=⟨b2,3,none⟩) hb2];exact hd3,x,λw' x=>by rw [x.cell (a:=⟨b2,2,none⟩) hb2];exact hd2,b,λw' x=>by rw [x.cell (a:=⟨b1,2,none⟩) hb];exact hc2,?_⟩;refine lu (hv.ex I) (by rw [JY];omega) λv153 θ ξ o154=>⟨Ex.trans I ξ,?_⟩
 refine gF q.size (JL _) hq1 hq2 hq3 (im alb) (zk alb 0) λr W ο hr2=>⟨Ex.trans (Ex.trans I ξ) ο,λζ Z hb157 ς=>?_⟩
 have x158:Ex W Z:=ς▸Ex.alloc W _;have V:=Ex.trans ξ (Ex.trans ο x158);have x0158:=Ex.trans I V;have hrl:r.aJ<=300:=by
  have h1:=(yA hr2.shp).2.2;have h2:=dQ q;omega
 have den:=(xt ok su hi hi' hk φ hik ho ho' hae hr hr' har (y7 (NN u) d uqr.kV) su.bound (by unfold NN;omega) hr2).1;rw [<-umc]at den;have hlw:(wo (t.ths.map T.text) i k).length<=60:=by
  have :=u0 (t.ths.map T.text) i k;rw [JY]at this;omega
 have two:Strs Z (.slice (some ⟨ζ,0,none⟩) 2 2) [p.text,r.text]:=DN hb157 ς;refine⟨x0158,Ai (o154.ex (Ex.trans ο x158)) V.size two (by simp only [JA,JQ];omega) λv164 H b165 o165=>?_⟩;have γ:=Ex.below V b165;have ε:=Ex.trans I γ;refine⟨ε,λv' w'=>Ex w w'/\Strs w' v' ((bG t.ths i k p r s t.ths[k]).map T.text),⟨s,by rw [ε.cell (a:=⟨b2,4,none⟩) hb2];exact hd4,λhs μ η hb168 υ=>?_,λhs=>⟨ε,?_⟩⟩,λv177 ν hJ178=>?_⟩
 ·have x169:Ex H η:=υ▸Ex.alloc H _;have δ:=Ex.trans γ x169;refine Ai (o165.ex x169) δ.size (Strs.one hb168 υ) (by simp only [JJ,JA,JQ];omega) λv175 w176 b176 o176=>⟨Ex.trans I (Ex.below δ b176),?_⟩
  have h:=o176.strs;rw [ew]at h;unfold bG;rw [hs];simpa using h
 ·have h:=o165.strs;rw [ew]at h;unfold bG;rw [hs];simpa using h
 ·obtain⟨x178,hs178⟩:=hJ178;refine Cz hs178 (Is (λz hz=>?_) ?_) den λsx qx w2 x2 h1 h2=>GC (hI.ex (Ex.trans x178 x2)) hl h1 h2 hJ
  ·unfold bG at hz;rcases JN.1 hz with hz | hz
   ·rcases JN.1 hz with hz | hz
    ·exact(χ _ (lE hz)).2
    ·rcases JX.1 hz with rfl | hz
     ·exact hpl
     ·cases JO.1 hz;exact hrl
   ·cases s
    ·cases hz
    ·cases JO.1 hz;exact(χ _ hmK).2
  ·unfold bG;simp only [JJ,JA,JQ];split<;>simp only [JA,JQ]<;>omega
end
theorem rV {e B:Nat}{w:World}{v:Value}{os:List (Off UInt8)}{xs:List Value}(z:cM e B w v os.length xs)(hm:fu os xs){j:Nat}(G:j< os.length):∃(g cap:Nat) (cs:List Value),v= .slice (some ⟨g,0,none⟩) os.length cap/\tP os[j] cs/\∀i u,cs[i]?=some u->∀off,off=j* 5+i->i< 5->w.cell? ⟨g,off,none⟩=some u:=by
 obtain⟨cs,H,I⟩:=hm.at G;rcases z.cell with⟨_,W,_⟩ | ⟨g,cap,rfl,_,J⟩
 ·omega
 ·refine⟨g,cap,cs,rfl,H,λi u hu off he V=>?_⟩;have :=J (j* 5+i) u (by rw [I i V];exact hu);rw [he];rwa [J']at this
theorem Hd {w w1:World}{g e:Nat}{cs:List Value}{c0:Array Value}(Z:cs.length=5)(h0:c0.size=5)(I:g=w.heap.size)(z:w1=w.alloc (.cells c0 e)):
  (∀j,j< 5->(∃u,w1.cell? ⟨g,0+j,none⟩=some u)/\w1.frozen? ⟨g,0+j,none⟩=false)/\∀w2,w2=World.setCells w1 g 0 cs->Ex w w2/\g< w2.heap.size/\∀j,j< 5->w2.cell? ⟨g,j,none⟩=cs[j]?:=by
 have J:∀j,j< 5->∃u,w1.cell? ⟨g,0+j,none⟩=some u:=λj G=>by
  rw [z,I];have:∃u,c0[0+j]?=some u:=by
   rw [J'];exact⟨_,Array.getElem?_eq_getElem (by omega)⟩
  obtain⟨u,hu⟩:=this;exact⟨u,aa hu⟩
 refine⟨λj G=>⟨J j G,by rw [z,I];exact aO _ _ _ _⟩,λw2 H=>?_⟩;obtain⟨k,_,_,V⟩:=a7 (b:=g) cs w1 0;rw [<-H]at k V;have W:Ex w w1:=z▸Ex.alloc _ _;have s1:w1.heap.size=w.heap.size+1:=by rw [z,size_alloc]
 have s2:=k.size;refine⟨Ex.below W (Kp.below k W.size λb hb e=>by omega),by omega,λj G=>?_⟩;have :=V j (λi hi=>J i (by omega)) (by omega)
 rwa [J']at this
theorem sR {k a b:UInt8}{s:Tx}{q:Bool}:(fI k a b s q).all oneV=true:=rfl
theorem Gr.cell {w0 w:World}{o0 o:Value}(h:Gr w0 o0 w o){a:Addr}(ha:a.block< w0.heap.size)(z:o0.ownBlock≠some a.block):w.cell? a=w0.cell? a:=by
 cases a with
 | mk b i t=>exact JB (w:=w0) (h.1.block b ha z)
theorem Gr.strs {w0 w:World}{o0 o v:Value}{l:List Tx}(h:Gr w0 o0 w o)(G:Strs w0 v l)(z:∀g,v.ownBlock=some g->o0.ownBlock≠some g):Strs w v l:=
 G.kp h.1 λb off n cap e H=>z b (nK e) H
theorem cM.gr {e B:Nat}{w0 w:World}{o0 o v:Value}{n:Nat}{xs:List Value}(h:cM e B w0 v n xs)(k:Gr w0 o0 w o)(z:∀g,v.ownBlock=some g->o0.ownBlock≠some g):cM e B w v n xs:=
 h.kp k.1 z
theorem cM.slice {e B:Nat}{w:World}{v:Value}{n:Nat}{xs:List Value}(h:cM e B w v n xs):∃a cap,v= .slice a n cap:=by
 rcases h.cell with⟨z,G,_⟩ | ⟨g,cap,z,_⟩
 ·exact⟨none,0,by rw [z,G]⟩
 ·exact⟨_,cap,z⟩
set_option maxHeartbeats 1600000 in
theorem DY {t:P}(ok:lZ t){w:World}{R:Value->Bool->World->Prop}(hR1:Cm (num t e0 0).1=none->∀w',Ex w w'->R (.slice none 0 0) false w')(hR2:∀l,Cm (num t e0 0).1=some l->∀v w',Ex w w'->Own w.heap.size w' v l->R v true w'):
  Calls Tryz.prog 102 #[.string (ab t.text)] w (an [.v,.b] R):=by
 have su:=ok.su;have hszt:=ok.size;have hsh:=(kA su.ae).2.2;generalize hu:(num t e0 0).1=u at*;have hsz:u.size<=60:=by omega
 obtain⟨hthl,hol,hE3,hE2s,hE1s,hE0s⟩:=lens hsz;obtain⟨hn,hts⟩:=wh ok;have hlen:=su.two.len;have okt:Ok t:=uw ok.al ok.good;have okth:∀q∈t.ths,Ok q:=λq hq=>⟨(su.al q hq).wf,by rw [aT];have :=(hts q hq).2;omega⟩
 refine sW t.text w R ?_;refine pM okt (qp okt ok.nr λv5 w6 x6 o5=>?_);have ω:=o5.strs;obtain⟨a,cap,hv⟩:=ω.slice;rw [JY]at hv;refine⟨a,_,cap,hv,λfine out x w'=>∃i:Nat,x=i/\i<=t.ths.length/\nG w6.heap.size w6 (.slice none 0 0) fine out w' ((List.range i).flatMap (E0 u)),λ _ _ x _=>(t.ths.length - x).toNat,⟨0,rfl,Ks _,⟨Gr.refl _ _,Own.nil _ _,rfl,JL _⟩⟩,λfine1 out1 x w15 hI=>?_⟩;obtain⟨i,rfl,hi,Z⟩:=hI;have x15:Ex w6 w15:=Z.gr.nil rfl;refine⟨λhlt=>?_,λhge=>?_⟩;rotate_left
 ·have hil:i=u.ths.length:=by simp only [JE]at hge;omega
  rw [hil]at Z;have e:(List.range u.ths.length).flatMap (E0 u)=gN u:=rfl;have hl:=hE0s _ (JL _);rw [e]at Z hl;refine⟨λhf=>hR1 ?_ w15 (Ex.trans x6 x15),λhf=>CO Z.ow.strs (by rw [yF];omega) λv2 w2 x2 o2=>hR2 _ ?_ v2 w2 (Ex.trans (Ex.trans x6 x15) x2) (o2.mono (Ex.trans x6 x15).size)⟩
  ·unfold Cm;rw [JV];intro h;rw [<-Z.fi]at h;rw [h]at hf;cases hf
  ·unfold Cm;rw [Ka];rw [<-Z.fi];simpa using hf
 have hi':i< t.ths.length:=by simp only [JD]at hlt;omega
 have θ:i< u.ths.length:=by omega
 have hmi:=JM hi';have two1:=jo (su.two.get hi' θ);have hlo:=two1.len;have hacc1:=hE0s i (by omega);have ek:(List.range (i+1)).flatMap (E0 u)=(List.range i).flatMap (E0 u)++E0 u i:=by rw [LR,KV];simp
 have eE0:E0 u i=(offs u.ths[i]).flatMap (E1 u i):=by unfold E0;rw [cN θ]
 refine ω.get x15 (i:=i) (x:=t.ths[i].text) (by omega) (by simp [hi']) (Q:=λn=>_) (ni _ (JL _) (okth _ hmi) (su.smpP _ hmi) (by have :=(hts _ hmi).1;omega) λv21 w22 xs x22 o21 m21=>?_);have h22:=(Z.ex x22).start;have n21:∀g,v21.ownBlock=some g->out1.ownBlock≠some g:=λg hg e=>by
  have h1:=(o21.block g hg).1;have h2:=Z.lt g e;omega
 obtain⟨a23,cap23,hv21⟩:=o21.slice;have hm1:((t.ths.length:Int) - ((i:Int)+1)).toNat< ((t.ths.length:Int) - i).toNat:=by omega
 generalize hA:(List.range i).flatMap (E0 u)=A at*;have hol1:=hol i θ;have hE1i:=λj=>hE1s i j θ
 refine⟨a23,_,cap23,hv21,λfine out x w'=>∃j:Nat,x=j/\j<=(offs t.ths[i]).length/\nG w6.heap.size w22 out1 fine out w' (A++((offs u.ths[i]).take j).flatMap (E1 u i)),λ _ _ x _=>((offs t.ths[i]).length - x).toNat,⟨0,rfl,Ks _,by simpa using h22⟩,λfine2 ι x w31 hI=>?_⟩;obtain⟨j,rfl,hj,κ⟩:=hI;refine⟨λhlt2=>?_,λhge2=>?_⟩;rotate_left
 ·have hjl:j=(offs u.ths[i]).length:=by simp only [JE]at hge2;omega
  rw [hjl,J3,<-eE0,<-ek]at κ;exact⟨by unfold aj;omega,⟨i+1,by omega,by omega,(Z.ex x22).back κ⟩,hm1⟩
 have hjP:j< (offs t.ths[i]).length:=by simp only [JD]at hlt2;omega
 have hjU:j< (offs u.ths[i]).length:=by omega
 have hm2:(((offs t.ths[i]).length:Int) - ((j:Int)+1)).toNat< (((offs t.ths[i]).length:Int) - j).toNat:=by omega
 have hae:=two1.get hjP hjU;have hmP:=JM hjP;have hmU:=JM hjU;obtain⟨g,capg,cs,hvg,J,α⟩:=rV (o21.gr κ.gr n21) m21 hjP;obtain⟨kk,ca,cb,cs3,cq,rfl⟩:=J.any;have etk:((offs u.ths[i]).take (j+1)).flatMap (E1 u i)=((offs u.ths[i]).take j).flatMap (E1 u i)++E1 u i (offs u.ths[i])[j]:=by rw [JG hjU,KV];simp
 have hacc2:(A++((offs u.ths[i]).take j).flatMap (E1 u i)).length<=13000000+216000:=by
  rw [JJ];have :=hE1i j;omega
 rw [hv21]at hvg;refine⟨g,0,_,capg,hv21.trans hvg,by omega,by omega,kk,ca,cb,cs3,cq,⟨α 0 _ rfl _ (by omega) (by omega),α 1 _ rfl _ (by omega) (by omega),α 2 _ rfl _ (by omega) (by omega),α 3 _ rfl _ (by omega) (by omega),α 4 _ rfl _ (by omega) (by omega),trivial⟩,λβ w42 hb41 hw42=>?_⟩;obtain⟨box1,box2⟩:=Hd (cs:=fI kk ca cb cs3 cq) rfl rfl hb41 hw42;refine⟨⟨rfl,sR,box1⟩,λφ hw43=>?_⟩;obtain⟨x43,l43,μ⟩:=box2 φ hw43;have h43:=(κ.ex x43).start;have hnb:ι.ownBlock≠some β:=λe=>by have :=κ.lt _ e;omega
 have x643:Ex w6 φ:=Ex.trans ((Z.gr.ex x22).trans κ.gr |>.nil rfl) x43;have hacc2':=hacc2;generalize hA2:A++((offs u.ths[i]).take j).flatMap (E1 u i)=A2 at*;have ν:∀{fn:Bool} {o:Value} {w':World},nG w6.heap.size φ ι fn o w' (A2++E1 u i (offs u.ths[i])[j])->aj ((j:Int)+1)/\(∃j':Nat,(j:Int)+1=j'/\j'<=(offs t.ths[i]).length/\nG w6.heap.size w22 out1 fn o w' (A++((offs u.ths[i]).take j').flatMap (E1 u i)))/\(((offs t.ths[i]).length:Int) - ((j:Int)+1)).toNat< (((offs t.ths[i]).length:Int) - j).toNat:=λ{fn o w'} h=>by
  refine⟨by unfold aj;omega,⟨j+1,by omega,by omega,(κ.ex x43).back ?_⟩,hm2⟩;rw [etk,<-Kg,hA2];exact h
 generalize (offs t.ths[i])[j]=oP at*;generalize (offs u.ths[i])[j]=oU at*;cases oP<;>cases oU<;>try exact hae.elim
 ·
  rename_i p I;obtain⟨_,_,_,J⟩:=J;unfold fI at J;simp only [Kw,KY,LH,Mb,LD]at J;have e1:kk=126:=J4.1 (by omega);have e2:cs3=p.text:=pc J.2.2.2.1;subst e1 e2;refine⟨λfn o w'=>nG w6.heap.size φ ι fn o w' (A2++[H6 u i I]),⟨126,μ 0 (by omega),cS rfl ?_⟩,λfn o w' h=>⟨126,?_,λ _=>ν h,(λh=>by cases h)⟩⟩
  ·exact Hy ok su hi' θ hmP hmU hae (ω.ex x643) l43 (μ 3 (by omega)) h43 (by omega) λfn v' w' h=>h
  ·rw [h.gr.cell (a:=⟨β,0,none⟩) l43 hnb];exact μ 0 (by omega)
 ·
  rename_i ca' cb' p c d I;obtain⟨_,J⟩:=J;unfold fI at J;simp only [Kw,KY,LH,Mb,LD]at J;have e1:kk=33:=J4.1 (by omega);have e2:cs3=p.text:=pc J.2.2.2.1;have e3:ca=ca':=J4.1 (by omega);have e4:cb=cb':=J4.1 (by omega);subst e1 e2 e3 e4;refine⟨λfn o w'=>nG w6.heap.size φ ι fn o w' A2,⟨33,μ 0 (by omega),aS (by decide) h43⟩,λfine3 δ ε G=>⟨33,?_,(λh=>by cases h),λ _=>?_⟩⟩
  ·rw [G.gr.cell (a:=⟨β,0,none⟩) l43 hnb];exact μ 0 (by omega)
  have r105:=G.start;have g105:Gr w6 (.slice none 0 0) ε δ:=(((Z.gr.ex x22).trans κ.gr).ex x43).trans G.gr;have s43:=G.gr.size;have hnb3:δ.ownBlock≠some β:=λe=>(G.gr.2 _ e).elim hnb λe=>by omega
  have c105:∀j,j< 5->ε.cell? ⟨β,j,none⟩=(fI 33 ca cb p.text cq)[j]?:=λj hj=>by rw [G.gr.cell (a:=⟨β,j,none⟩) l43 hnb];exact μ j hj
  have hm3:∀k:Nat,k< t.ths.length->((t.ths.length:Int) - ((k:Int)+1)).toNat< ((t.ths.length:Int) - k).toNat:=λk hk=>by omega
  refine⟨a,_,cap,hv,λfine out x w'=>∃k:Nat,x=k/\k<=t.ths.length/\nG w6.heap.size ε δ fine out w' (A2++(List.range k).flatMap (E2 u i c d I)),λ _ _ x _=>(t.ths.length - x).toNat,⟨0,rfl,Ks _,by simpa using r105⟩,λfine4 ς x w115 hI=>?_⟩;obtain⟨k,rfl,hk,V⟩:=hI;have g115:=g105.trans V.gr;have x115:=g115.nil rfl;refine⟨λhlt3=>?_,λhge3=>?_⟩;rotate_left
  ·have hkl:k=u.ths.length:=by simp only [JE]at hge3;omega
   rw [hkl]at V;exact ν (G.back V)
  have χ:k< t.ths.length:=by simp only [JD]at hlt3;omega
  have ψ:k< u.ths.length:=by omega
  have ek2:(List.range (k+1)).flatMap (E2 u i c d I)=(List.range k).flatMap (E2 u i c d I)++E2 u i c d I k:=by rw [LR,KV];simp
  refine ω.get x115 (i:=k) (x:=t.ths[k].text) (by omega) (by simp [χ]) (Q:=λn=>_) ⟨λheq=>?_,λhne=>?_⟩
  ·have heq:i=k:=by simp only [JD]at heq;omega
   refine⟨by unfold aj;omega,⟨k+1,by omega,by omega,?_⟩,hm3 k χ⟩;rw [ek2,show E2 u i c d I k=[] by unfold E2;rw [Ka heq],Kb];exact V
  have hik:i≠k:=by simp only [JE]at hne;omega
  have hmk:=JM χ;have eE2:E2 u i c d I k=(offs u.ths[k]).flatMap (E3 u i k c d I):=by unfold E2;rw [JV hik,cN ψ]
  have two2:=jo (su.two.get χ ψ);have hlo2:=two2.len;refine ni _ (JL _) (okth _ hmk) (su.smpP _ hmk) (by have :=(hts _ hmk).1;omega) λv121 w122 xs2 x122 o121 m121=>?_
  have h122:=(V.ex x122).start;have n121:∀g,v121.ownBlock=some g->ς.ownBlock≠some g:=λg hg e=>by
   have h1:=(o121.block g hg).1;have h2:=V.lt g e;omega
  obtain⟨a123,cap123,ξ⟩:=o121.slice;have hacc3:(A2++(List.range k).flatMap (E2 u i c d I)).length<=13300000:=by
   have :=hE2s i c d I k (by omega);rw [JJ];omega
  have hm3k:=hm3 k χ;have hnext3:∀{fn:Bool} {o:Value} {w':World},nG w6.heap.size w122 ς fn o w' ((A2++(List.range k).flatMap (E2 u i c d I))++E2 u i c d I k)->aj ((k:Int)+1)/\(∃k':Nat,(k:Int)+1=k'/\k'<=t.ths.length/\nG w6.heap.size ε δ fn o w' (A2++(List.range k').flatMap (E2 u i c d I)))/\((t.ths.length:Int) - ((k:Int)+1)).toNat< ((t.ths.length:Int) - k).toNat:=λ{fn o w'} h=>by
   refine⟨by unfold aj;omega,⟨k+1,by omega,by omega,(V.ex x122).back ?_⟩,hm3k⟩;rw [ek2,<-Kg];exact h
  generalize hA3:A2++(List.range k).flatMap (E2 u i c d I)=A3 at*;refine⟨a123,_,cap123,ξ,λfine out x w'=>∃l:Nat,x=l/\l<=(offs t.ths[k]).length/\nG w6.heap.size w122 ς fine out w' (A3++((offs u.ths[k]).take l).flatMap (E3 u i k c d I)),λ _ _ x _=>((offs t.ths[k]).length - x).toNat,⟨0,rfl,Ks _,by simpa using h122⟩,λfine5 out5 x w131 hI=>?_⟩;obtain⟨l,rfl,hl,ζ⟩:=hI;refine⟨λhlt4=>?_,λhge4=>?_⟩;rotate_left
  ·have hll:l=(offs u.ths[k]).length:=by simp only [JE]at hge4;omega
   rw [hll,J3,<-eE2]at ζ;exact hnext3 ζ
  have hlP:l< (offs t.ths[k]).length:=by simp only [JD]at hlt4;omega
  have hlU:l< (offs u.ths[k]).length:=by omega
  have hm4:(((offs t.ths[k]).length:Int) - ((l:Int)+1)).toNat< (((offs t.ths[k]).length:Int) - l).toNat:=by omega
  have har:=two2.get hlP hlU;have hrP:=JM hlP;have hrU:=JM hlU;obtain⟨g2,capg2,cs2,hvg2,z,H⟩:=rV (o121.gr ζ.gr n121) m121 hlP;obtain⟨kk2,ce,cx,cs4,cq2,rfl⟩:=z.any;have etk2:((offs u.ths[k]).take (l+1)).flatMap (E3 u i k c d I)=((offs u.ths[k]).take l).flatMap (E3 u i k c d I)++E3 u i k c d I (offs u.ths[k])[l]:=by rw [JG hlU,KV];simp
  have hol2:=hol k ψ;have hacc4:(A3++((offs u.ths[k]).take l).flatMap (E3 u i k c d I)).length<=13400000:=by
   have :=hE3 i k c d I ((offs u.ths[k]).take l) (by rw [Kf];omega);rw [JJ];omega
  rw [ξ]at hvg2;refine⟨g2,0,_,capg2,ξ.trans hvg2,by omega,by omega,kk2,ce,cx,cs4,cq2,⟨H 0 _ rfl _ (by omega) (by omega),H 1 _ rfl _ (by omega) (by omega),H 2 _ rfl _ (by omega) (by omega),H 3 _ rfl _ (by omega) (by omega),H 4 _ rfl _ (by omega) (by omega),trivial⟩,λb141 w142 hb141 hw142=>?_⟩;obtain⟨box3,box4⟩:=Hd (cs:=fI kk2 ce cx cs4 cq2) rfl rfl hb141 hw142;refine⟨⟨rfl,sR,box3⟩,λη hw143=>?_⟩;obtain⟨x143,l143,γ⟩:=box4 η hw143;have υ:=(ζ.ex x143).start;have g143:Gr ε δ η out5:=((V.gr.ex x122).trans ζ.gr).ex x143;have x6143:Ex w6 η:=(g105.trans g143).nil rfl;have ο:∀j,j< 5->η.cell? ⟨β,j,none⟩=(fI 33 ca cb p.text cq)[j]?:=λj hj=>by rw [g143.cell (a:=⟨β,j,none⟩) (by show β< _;omega) hnb3];exact c105 j hj
  have hb143:β< η.heap.size:=by have :=g143.size;omega
  generalize hA4:A3++((offs u.ths[k]).take l).flatMap (E3 u i k c d I)=A4 at*;have W:∀{fn:Bool} {o:Value} {w':World},nG w6.heap.size η out5 fn o w' (A4++E3 u i k c d I (offs u.ths[k])[l])->aj ((l:Int)+1)/\(∃l':Nat,(l:Int)+1=l'/\l'<=(offs t.ths[k]).length/\nG w6.heap.size w122 ς fn o w' (A3++((offs u.ths[k]).take l').flatMap (E3 u i k c d I)))/\(((offs t.ths[k]).length:Int) - ((l:Int)+1)).toNat< (((offs t.ths[k]).length:Int) - l).toNat:=λ{fn o w'} h=>by
   refine⟨by unfold aj;omega,⟨l+1,by omega,by omega,(ζ.ex x143).back ?_⟩,hm4⟩;rw [etk2,<-Kg,hA4];exact h
  have frc:∃q∈u.ths,q.Fr c:=⟨_,JM θ,(aW (su.smp _ (JM θ)) _ hmU).1.fr c (.inl rfl)⟩
  generalize (offs t.ths[k])[l]=rP at*;generalize (offs u.ths[k])[l]=rU at*;cases rP<;>cases rU<;>try exact har.elim
  ·obtain⟨_,_,_,z⟩:=z;unfold fI at z;simp only [Kw,KY,LH,Mb,LD]at z;have e1:kk2=126:=J4.1 (by omega);subst e1;exact⟨126,γ 0 (by omega),(λh=>by cases h),λ _=>W (by simpa [E3]using υ)⟩
  ·obtain⟨_,z⟩:=z;unfold fI at z;simp only [Kw,KY,LH,Mb,LD]at z;have e1:kk2=33:=J4.1 (by omega);subst e1;exact⟨33,γ 0 (by omega),(λh=>by cases h),λ _=>W (by simpa [E3]using υ)⟩
  ·rename_i e x q s e' x' q' s';unfold tP fI at z;simp only [Kw,KY,LH,Value.bool.injEq,Mb,LD]at z;have e1:kk2=63:=J4.1 (by omega);have e2:cs4=q.text:=pc z.2.2.2.1;have e3:ce=e:=J4.1 (by omega);have e4:cx=x:=J4.1 (by omega);have e5:cq2=s:=z.2.2.2.2;subst e1 e2 e3 e4 e5;have fre:∃q∈u.ths,q.Fr e':=⟨_,JM ψ,(aW (su.smp _ (JM ψ)) _ hrU).1.fr e' (.inl rfl)⟩
   have hae1:ca=asg u.frL t.frL ρ0 c:=J4.1 hae.1;have har1:ce=asg u.frL t.frL ρ0 e':=J4.1 har.1;refine⟨63,γ 0 (by omega),λ _=>⟨ce,γ 1 (by omega),ca,ο 1 (by omega),λhne=>W ?_,λheq=>?_⟩,(λh=>by cases h)⟩
   ·have hne:ce≠ca:=by simpa using hne
    have:¬e'=c:=λh=>hne (by rw [har1,hae1,h])
    rw [show E3 u i k c d I (.rcv e' x' q' s')=[] by unfold E3;simp only;rw [JV this],Kb];exact υ
   ·have heq:ce=ca:=by simpa using heq
    have hec:e'=c:=su.inj fre frc (by rw [<-har1,<-hae1,heq]);refine EF ok su hi' θ χ ψ hik hmP hmU hae hrP hrU har (ω.ex x6143) hb143 l143 (ο 2 (by omega)) (ο 3 (by omega)) (γ 2 (by omega)) (γ 3 (by omega)) (γ 4 (by omega)) υ (by omega) λfn v' w' h=>W ?_
    rw [show E3 u i k c d I (.rcv e' x' q' s')=[Ci u i k I (q'.map (Ff (NN u) q' x' d)) s'] by unfold E3;simp only;rw [Ka hec]];exact h
 ·
  rename_i ca' cb' p s c d I s';unfold tP fI at J;simp only [Kw,KY,LH,Mb,LD]at J;have e1:kk=63:=J4.1 (by omega);subst e1;refine⟨λfn o w'=>nG w6.heap.size φ ι fn o w' A2,⟨63,μ 0 (by omega),aS (by decide) h43⟩,λfine3 δ ε G=>⟨63,?_,λ _=>ν ?_,(λh=>by cases h)⟩⟩
  ·rw [G.gr.cell (a:=⟨β,0,none⟩) l43 hnb];exact μ 0 (by omega)
  ·simpa [E1]using G
theorem uT {w:World}{v:Value}{l:List Tx}{x:Tx}(h:Strs w v l)(Z:l.length<=1000000000){R:Int->World->Prop}(J:∀i:Int,(i< 0↔x∉l)->(0<=i->∃h:i.toNat< l.length,l[i.toNat]=x)->R i w):
  Calls Tryz.prog 60 #[v,.string (ab x)] w (an [.i] R):=by
 refine qU v x w R ?_;obtain⟨a,cap,V⟩:=h.slice;refine⟨a,_,cap,V,λi w'=>w'=w/\∃k:Nat,i=k/\k<=l.length/\x∉l.take k,λi _=>((l.length:Int) - i).toNat,⟨rfl,0,rfl,Ks _,by simp⟩,λi w' W=>?_⟩;obtain⟨rfl,k,rfl,hk,hm⟩:=W;refine⟨λH=>?_,λI=>?_⟩
 ·have z:k< l.length:=by simp only [JD]at H;omega
  refine h.get (Ex.refl _) (i:=k) (x:=l[k]) (by omega) (by simp [z]) (Q:=λn=>_) ⟨λhe=>J k ?_ λ _=>⟨z,by simpa using he⟩,λG=>⟨by unfold aj;omega,⟨rfl,k+1,by omega,z,?_⟩,by dsimp only;omega⟩⟩
  ·have he:l[k]=x:=by simpa using he
   exact⟨λh=>by omega,λh=>absurd (he▸JM z) h⟩
  ·have G:l[k]≠x:=by simpa using G
   rw [JG z,JN,JO];exact λh=>h.elim hm λe=>G e.symm
 ·have:k=l.length:=by simp only [JE]at I;omega
  rw [this,J3]at hm;exact J (-1) ⟨λ _=>hm,λ _=>by omega⟩ λh=>by omega
theorem xq {B b k:Nat}{w w1 w2:World}{v v':Value}(H:b< w.heap.size)(hb:B<=b)(hB:B<=w.heap.size)(V:∀g,v.ownBlock=some g->B<=g/\g< w.heap.size/\g≠b)(Z:∃u,w.cell? ⟨b,k,none⟩=some u)(hf:∀j,w.frozen? ⟨b,j,none⟩=false)(x:Ex w w1)(hg:w1.grownBy w2 v.ownBlock):
  ((∃u,w2.cell? ⟨b,k,none⟩=some u)/\w2.frozen? ⟨b,k,none⟩=false)/\∀w',w'=w2.setCell ⟨b,k,none⟩ v'->w'.cell? ⟨b,k,none⟩=some v'/\(∀j,j≠k->w'.cell? ⟨b,j,none⟩=w.cell? ⟨b,j,none⟩)/\(∀j,w'.frozen? ⟨b,j,none⟩=false)/\Kp w w' (λg=>v.ownBlock=some g\/g=b)/\Below B w w'/\Kp w2 w' (λg=>g=b):=by
 have z:Kp w1 w2 λg=>v.ownBlock=some g:=Kp.aP hg λ _ h=>h
 have s1:=x.size;have I:=z.block b (by omega) λe=>(V b e).2.2 rfl
 obtain⟨u,hu⟩:=Z;have c2:∀j,w2.cell? ⟨b,j,none⟩=w.cell? ⟨b,j,none⟩:=λj=>by rw [JB (w:=w1) I,x.cell (a:=⟨b,j,none⟩) H]
 have f2:∀j,w2.frozen? ⟨b,j,none⟩=false:=λj=>by rw [J8 (w:=w1) I,K4 x H];exact hf j
 have W:w2.cell? ⟨b,k,none⟩=some u:=(c2 k).trans hu;refine⟨⟨⟨u,W⟩,f2 k⟩,λw' G=>?_⟩;have kr:Kp w2 w' (λg=>g=b):=G▸Kr.set w2 k v';have sk:=z.size;refine⟨by rw [G];exact JT _ _ _ W,λj hj=>?_,λj=>by rw [G,JU];exact f2 j,?_,?_,kr⟩
 ·rw [G,JH _ _ _ _ (λe=>by injection e with e1 I;exact hj I.symm)];exact c2 j
 ·exact Kp.trans (Kp.trans (Kp.ah x _) (Kp.mono (λ _ h=> .inl h) z) λ _ _ h=>h) kr λ _ _ h=> .inr h
 ·exact Le (Le (My x hB) (Kp.below z (by omega) λg J e=>by have :=(V g e).1;omega)) (Kp.below kr (by omega) λg J e=>by omega)
abbrev tX:Nat:=25
abbrev tI:Nat:=3
structure oW (B b:Nat)(w:World)(va vn vx:Value)(all:List Tx)(ns:List Nat)(vs:List Value)(L:Nat->Prop):Prop where
 lb:B<=b
 lt:b< w.heap.size
 f:∀j,w.frozen? ⟨b,j,none⟩=false
 c0:w.cell? ⟨b,0,none⟩=some va
 c1:w.cell? ⟨b,1,none⟩=some vn
 c2:w.cell? ⟨b,2,none⟩=some vx
 a:Own B w va all
 n:aD tI B w vn (ns.map iv)
 x:aD tX B w vx vs
 da:∀g,va.ownBlock=some g->g≠b/\vn.ownBlock≠some g/\vx.ownBlock≠some g/\¬L g
 dn:∀g,vn.ownBlock=some g->g≠b/\vx.ownBlock≠some g/\¬L g
 dx:∀g,vx.ownBlock=some g->g≠b/\¬L g
 ml:∀g,L g->B<=g/\g< w.heap.size/\g≠b
 ls:∀j (h:j< vs.length),∃h':j< all.length,∃l,ue all[j]=some l/\Strs w vs[j] l/\∀g,vs[j].ownBlock=some g->L g
section
variable {B b:Nat} {w w':World} {va vn vx:Value} {all:List Tx} {ns:List Nat} {vs:List Value} {L:Nat->Prop}
theorem aD.ex {e:Nat}{v:Value}{l:List Value}(h:aD e B w v l)(x:Ex w w'):aD e B w' v l:=h.kp (Kp.ah x λ _=>False) λ _ _ h=>h
theorem oW.ex (h:oW B b w va vn vx all ns vs L)(x:Ex w w'):oW B b w' va vn vx all ns vs L:=by
 have s:=x.size;have c:∀j,w'.cell? ⟨b,j,none⟩=w.cell? ⟨b,j,none⟩:=λj=>x.cell (a:=⟨b,j,none⟩) h.lt
 refine⟨h.lb,by have :=h.lt;omega,λj=>by rw [K4 x h.lt];exact h.f j,by rw [c];exact h.c0,by rw [c];exact h.c1,by rw [c];exact h.c2,h.a.ex x,h.n.ex x,h.x.ex x,h.da,h.dn,h.dx,λg z=>⟨(h.ml g z).1,by have :=(h.ml g z).2.1;omega,(h.ml g z).2.2⟩,λj G=>?_⟩;obtain⟨H,l,I,J,h4⟩:=h.ls j G;exact⟨H,l,I,J.ex x,h4⟩
theorem Strs.Ik {v:Value}{l:List Tx}{S:Nat->Prop}(h:Strs w v l)(k:Kp w w' S)(z:∀g,v.ownBlock=some g->¬S g):Strs w' v l:=h.kp k λb _ _ _ e=>z b (nK e)
theorem oW.GP (h:oW B b w va vn vx all ns vs L)(hB:B<=w.heap.size){s:Tx}{w1 w2:World}(x:Ex w w1){v':Value}(ho:Own B w2 v' (all++[s]))(z:w1.grownBy w2 va.ownBlock)(hn:∀g,v'.ownBlock=some g->va.ownBlock=some g\/w1.heap.size<=g):
  ((∃u,w2.cell? ⟨b,0,none⟩=some u)/\w2.frozen? ⟨b,0,none⟩=false)/\∀w',w'=w2.setCell ⟨b,0,none⟩ v'->oW B b w' v' vn vx (all++[s]) ns vs L/\Below B w w':=by
 obtain⟨I,J⟩:=xq (v':=v') h.lt h.lb hB (λg z=>⟨(h.a.block g z).1,(h.a.block g z).2,(h.da g z).1⟩) ⟨_,h.c0⟩ h.f x z;refine⟨I,λw' V=>?_⟩;obtain⟨k1,W,k3,H,k5,k6⟩:=J w' V;have sx:=x.size;have sk:=H.size;have α:=h.lt;have Z:∀g,v'.ownBlock=some g->g≠b/\vn.ownBlock≠some g/\vx.ownBlock≠some g/\¬L g:=λg z=>(hn g z).elim (h.da g) λe=>⟨by omega,λG=>by have :=(h.n.block g G).2;omega,λG=>by have :=(h.x.block g G).2;omega,λG=>by have :=(h.ml g G).2.1;omega⟩
 refine⟨⟨h.lb,by omega,k3,k1,(W 1 (by omega)).trans h.c1,(W 2 (by omega)).trans h.c2,ho.kp k6 λg z=>(Z g z).1,h.n.kp H λg z e=>e.elim (λe=>(h.da g e).2.1 z) (h.dn g z).1,h.x.kp H λg z e=>e.elim (λe=>(h.da g e).2.2.1 z) (h.dx g z).1,Z,h.dn,h.dx,λg z=>⟨(h.ml g z).1,by have :=(h.ml g z).2.1;omega,(h.ml g z).2.2⟩,λj hj=>?_⟩,k5⟩;obtain⟨I,l,J,h3,h4⟩:=h.ls j hj;exact⟨by rw [JJ];omega,l,by rw [Md I];exact J,h3.Ik H λg z e=>e.elim (λe=>(h.da g e).2.2.2 (h4 g z)) (h.ml g (h4 g z)).2.2,h4⟩
theorem oW.GQ (h:oW B b w va vn vx all ns vs L)(hB:B<=w.heap.size){m:Nat}{w1 w2:World}(x:Ex w w1){v':Value}(ho:aD tI B w2 v' ((ns++[m]).map iv))(z:w1.grownBy w2 vn.ownBlock)(W:∀g,v'.ownBlock=some g->vn.ownBlock=some g\/w1.heap.size<=g):
  ((∃u,w2.cell? ⟨b,1,none⟩=some u)/\w2.frozen? ⟨b,1,none⟩=false)/\∀w',w'=w2.setCell ⟨b,1,none⟩ v'->oW B b w' va v' vx all (ns++[m]) vs L/\Below B w w':=by
 obtain⟨H,I⟩:=xq (v':=v') h.lt h.lb hB (λg z=>⟨(h.n.block g z).1,(h.n.block g z).2,(h.dn g z).1⟩) ⟨_,h.c1⟩ h.f x z;refine⟨H,λw' J=>?_⟩;obtain⟨k1,Z,k3,G,k5,k6⟩:=I w' J;have sx:=x.size;have sk:=G.size;have α:=h.lt;have dv:∀g,v'.ownBlock=some g->g≠b/\vx.ownBlock≠some g/\¬L g:=λg z=>(W g z).elim (h.dn g) λe=>⟨by omega,λV=>by have :=(h.x.block g V).2;omega,λV=>by have :=(h.ml g V).2.1;omega⟩
 refine⟨⟨h.lb,by omega,k3,(Z 0 (by omega)).trans h.c0,k1,(Z 2 (by omega)).trans h.c2,h.a.kp G λg z e=>e.elim (λe=>(h.da g z).2.1 e) (h.da g z).1,ho.kp k6 λg z=>(dv g z).1,h.x.kp G λg z e=>e.elim (λe=>(h.dn g e).2.1 z) (h.dx g z).1,λg z=>⟨(h.da g z).1,λe=>(W g e).elim (h.da g z).2.1 λe=>by have :=(h.a.block g z).2;omega,(h.da g z).2.2⟩,dv,h.dx,λg z=>⟨(h.ml g z).1,by have :=(h.ml g z).2.1;omega,(h.ml g z).2.2⟩,λj hj=>?_⟩,k5⟩;obtain⟨H,l,I,h3,h4⟩:=h.ls j hj;exact⟨H,l,I,h3.Ik G λg z e=>e.elim (λe=>(h.dn g e).2.2 (h4 g z)) (h.ml g (h4 g z)).2.2,h4⟩
theorem oW.Iw (h:oW B b w va vn vx all ns vs L)(hB:B<=w.heap.size){w0 w1 w2:World}(x0:Ex w w0)(x:Ex w0 w1){v v':Value}{l:List Tx}(hl:vs.length< all.length)(V:ue all[vs.length]=some l)(hs:Strs w0 v l)(H:∀g,v.ownBlock=some g->w.heap.size<=g/\g< w0.heap.size)(ho:aD tX B w2 v' (vs++[v]))(z:w1.grownBy w2 vx.ownBlock)(W:∀g,v'.ownBlock=some g->vx.ownBlock=some g\/w1.heap.size<=g):
  ((∃u,w2.cell? ⟨b,2,none⟩=some u)/\w2.frozen? ⟨b,2,none⟩=false)/\∀w',w'=w2.setCell ⟨b,2,none⟩ v'->oW B b w' va vn v' all ns (vs++[v]) (λg=>L g\/v.ownBlock=some g)/\Below B w w':=by
 obtain⟨Z,h2⟩:=xq (v':=v') h.lt h.lb hB (λg z=>⟨(h.x.block g z).1,(h.x.block g z).2,(h.dx g z).1⟩) ⟨_,h.c2⟩ h.f (Ex.trans x0 x) z;refine⟨Z,λw' α=>?_⟩;obtain⟨k1,k2,k3,J,k5,k6⟩:=h2 w' α;have γ:=x0.size;have sx:=x.size;have sk:=J.size;have s2:=z.size;have s6:=k6.size;have δ:=h.lt;have dv:∀g,v'.ownBlock=some g->g≠b/\¬(L g\/v.ownBlock=some g):=λg z=>(W g z).elim (λe=>⟨(h.dx g e).1,λG=>G.elim (h.dx g e).2 λG=>by have :=(H g G).1;have :=(h.x.block g e).2;omega⟩) λe=>⟨by omega,λG=>G.elim (λG=>by have :=(h.ml g G).2.1;omega) λG=>by have :=(H g G).2;omega⟩
 refine⟨⟨h.lb,by omega,k3,(k2 0 (by omega)).trans h.c0,(k2 1 (by omega)).trans h.c1,k1,h.a.kp J λg z e=>e.elim (λe=>(h.da g z).2.2.1 e) (h.da g z).1,h.n.kp J λg z e=>e.elim (λe=>(h.dn g z).2.1 e) (h.dn g z).1,ho.kp k6 λg z=>(dv g z).1,λg z=>⟨(h.da g z).1,(h.da g z).2.1,λe=>(W g e).elim (h.da g z).2.2.1 λe=>by have :=(h.a.block g z).2;omega,λe=>e.elim (h.da g z).2.2.2 λe=>by have :=(H g e).1;have :=(h.a.block g z).2;omega⟩,
  λg z=>⟨(h.dn g z).1,λe=>(W g e).elim (h.dn g z).2.1 λe=>by have :=(h.n.block g z).2;omega,λe=>e.elim (h.dn g z).2.2 λe=>by have :=(H g e).1;have :=(h.n.block g z).2;omega⟩,dv,λg z=>z.elim (λz=>⟨(h.ml g z).1,by have :=(h.ml g z).2.1;omega,(h.ml g z).2.2⟩) λz=>by have :=H g z;exact⟨by omega,by omega,by omega⟩,λj hj=>?_⟩,k5⟩
 rw [JJ,Lh]at hj;by_cases I:j< vs.length
 ·obtain⟨Z,l',h2,h3,h4⟩:=h.ls j I;rw [Md I];exact⟨Z,l',h2,h3.Ik J λg z e=>e.elim (λe=>(h.dx g e).2 (h4 g z)) (h.ml g (h4 g z)).2.2,λg z=> .inl (h4 g z)⟩
 ·have:j=vs.length:=by omega
  subst this;rw [List.getElem_append_right (JL _)];simp only [MY,List.getElem_cons_zero];have β:Kp w0 w' λg=>vx.ownBlock=some g\/g=b:=Kp.trans (Kp.trans (Kp.ah x _) (Kp.mono (λ _ h=> .inl h) (Kp.aP z λ _ h=>h)) λ _ _ h=>h) k6 λ _ _ h=> .inr h
  refine⟨hl,l,V,hs.Ik β λg z e=>?_,λg z=> .inr z⟩;have h3:=(H g z).1;exact e.elim (λe=>by have :=(h.x.block g e).2;omega) λe=>by omega
end
theorem yD {w w':World}(x:Ex w w'):w.grownBy w' none:=⟨x.os,x.tape,x.output,x.size,λg z _=>x.block g z⟩
def Iv (w:World)(b2 b4:Nat)(q:Bool)(R:Value->Bool->World->Prop):Prop:=
 ∃v162:Value,∃G:Value,∃v164:Value,(World.cell? w ⟨b4,0,none⟩=some v162/\World.cell? w ⟨b4,1,none⟩=some G/\World.cell? w ⟨b4,2,none⟩=some v164/\True)/\(List.length [v162,G,v164]=3/\List.all [v162,G,v164] oneV=true/\∀j,j< 3->(∃u,World.cell? w ⟨b2,0+j,none⟩=some u)/\World.frozen? w ⟨b2,0+j,none⟩=false)/\
  ∀z:World,z=World.setCells w b2 0 [v162,G,v164]->∃H:Value,∃I:Value,∃J:Value,(World.cell? z ⟨b2,0,none⟩=some H/\World.cell? z ⟨b2,1,none⟩=some I/\World.cell? z ⟨b2,2,none⟩=some J/\True)/\R ((Value.agg #[H,I,J])) q z
section
variable {B b:Nat} {w w':World} {va vn vx:Value} {all:List Tx} {ns:List Nat} {vs:List Value} {L:Nat->Prop}
theorem oW.kp (h:oW B b w va vn vx all ns vs L)(k:Kp w w' λg=>g< B):oW B b w' va vn vx all ns vs L:=by
 have s:=k.size;have hb:=h.lb;have e:=k.block b h.lt (by omega);refine⟨h.lb,by have :=h.lt;omega,λj=>by rw [J8 (w:=w) e];exact h.f j,by rw [JB (w:=w) e];exact h.c0,by rw [JB (w:=w) e];exact h.c1,by rw [JB (w:=w) e];exact h.c2,h.a.kp k λg z e=>by have :=(h.a.block g z).1;omega,h.n.kp k λg z e=>by have :=(h.n.block g z).1;omega,h.x.kp k λg z e=>by have :=(h.x.block g z).1;omega,h.da,h.dn,h.dx,λg z=>⟨(h.ml g z).1,by have :=(h.ml g z).2.1;omega,(h.ml g z).2.2⟩,λj G=>?_⟩;obtain⟨H,l,I,J,h4⟩:=h.ls j G;exact⟨H,l,I,J.Ik k λg z e=>by have :=(h.ml g (h4 g z)).1;omega,h4⟩
theorem oW.Bs (h:oW B b w va vn vx all ns vs L):oneV va=true/\oneV vn=true/\oneV vx=true:=⟨h.a.ka,h.n.ka,h.x.ka⟩
theorem Ei (h:oW B b w va vn vx all ns vs L){b2:Nat}(J:b2< B)(I:∀j,j< 3->(∃u,w.cell? ⟨b2,j,none⟩=some u)/\w.frozen? ⟨b2,j,none⟩=false){q:Bool}{R:Value->Bool->World->Prop}(V:∀w',Kp w w' (λg=>g=b2)->oW B b w' va vn vx all ns vs L->R (.agg #[va,vn,vx]) q w'):Iv w b2 b q R:=by
 obtain⟨W,Z,o3⟩:=h.Bs;refine⟨va,vn,vx,⟨h.c0,h.c1,h.c2,trivial⟩,⟨rfl,by simp [W,Z,o3],λj G=>by rw [J'];exact I j G⟩,λw1 H=>?_⟩;obtain⟨k,_,_,z⟩:=a7 (b:=b2) [va,vn,vx] w 0;rw [<-H]at k z;have z:=λj (G:j< 3)=>z j (λi hi=>by rw [J'];exact(I i hi).1) G
 simp only [J']at z;exact⟨va,vn,vx,⟨z 0 (by omega),z 1 (by omega),z 2 (by omega),trivial⟩,V w1 k (h.kp (Kp.mono (λg e=>by omega) k))⟩
end
def IV (w:World)(v src:Value)(K:Value->World->Prop):Prop:=
 ∃(base n m:Nat) (xs news:List Value),World.ownsRow w base tI 1 v n xs/\base<=Array.size (World.heap w)/\dN w src m 1 news/\(n+m<=maxLen/\(n+m)* 8<=140737488355328)/\
  ∀(v':Value) (w':World),World.ownsRow w' base tI 1 v' (n+m) (xs++news)->World.grownBy w w' (Value.ownBlock v)->(∀b:Nat,Value.ownBlock v'=some b->Value.ownBlock v=some b\/Array.size (World.heap w)<=b)->K v' w'
theorem AL {e B by_:Nat}{w:World}{v:Value}{l:List Value}(h:aD e B w v l)(hB:B<=w.heap.size){x:Value}{m:List Value}(G:dN w x m.length 1 m)(z:by_<=48)(H:l.length+m.length<=1099511627776){K:Value->World->Prop}
  (I:∀v' w',aD e B w' v' (l++m)->w.grownBy w' v.ownBlock->(∀b,v'.ownBlock=some b->v.ownBlock=some b\/w.heap.size<=b)->K v' w'):
  ∃(base n k:Nat) (xs news:List Value),World.ownsRow w base e 1 v n xs/\base<=Array.size (World.heap w)/\dN w x k 1 news/\(n+k<=maxLen/\(n+k)* by_<=140737488355328)/\
   ∀(v':Value) (w':World),World.ownsRow w' base e 1 v' (n+k) (xs++news)->World.grownBy w w' (Value.ownBlock v)->(∀b:Nat,Value.ownBlock v'=some b->Value.ownBlock v=some b\/Array.size (World.heap w)<=b)->K v' w':=by
 refine⟨B,l.length,m.length,l,m,h,hB,G,⟨by unfold maxLen;omega,?_⟩,λv' w' J V hw=>I v' w' ?_ V hw⟩
 ·have:(l.length+m.length)* by_<=1099511627776* 48:=MU H z;omega
 ·unfold aD;rw [JJ];exact J
theorem re {e:Nat}{w w':World}{b:Nat}{x:Value}(z:oneV x=true)(hb:b=w.heap.size)(h:w'=w.alloc (.cells #[x] e)):dN w' (.slice (some ⟨b,0,none⟩) 1 1) [x].length 1 [x]:=by
 subst hb h;refine⟨rfl,by simp [z],.inr ⟨_,0,1,rfl,λj u hu=>?_⟩⟩;rw [J'];refine aa ?_
 match j,hu with
 | 0,hu=>simpa using hu
 | j+1,hu=>simp at hu
end Go.Proofs.YtdecokaadekjnaaGreat
namespace Go.Proofs.YtdecokaadekjnaaGreat
open Go
set_option maxRecDepth 100000
theorem mu (p1:ay)(t2:Value)(w:World)(R:Value->Bool->World->Prop)(h:bO 65 #[(.string (ab p1))] w λq3 w4=>fE (!q3) (bO 66 #[(.string (ab p1))] w4 λq5 w6=>fE (!q5) (bz t2 λl8=>ai (decide (6< (l8:Int))) (R (.slice none 0 0) false w6) (bz t2 λκ=>mT (.slice none 0 0) 0 w6 λZ I G z J=>ai (decide (z< (κ:Int))) (aH t2 z λb18 μ=>ct J b18 (μ+z.toNat* 1) λν=>jd 44 #[(.string (ab p1)),(.string (ab ν))] J λξ ο ς=>aQ ς (.cells #[(.slice none 0 0),(.slice none 0 0),(.slice none 0 0)] 49) λH υ=>∃α:List Value,ξ= .agg (List.toArray α)/\vE υ H 0 3 α λW=>ai (!ο) (R (.slice none 0 0) false W) (∃v30:Value,∃v31:Value,∃β:Value,(World.cell? W ⟨H,0,none⟩=some v30/\World.cell? W ⟨H,1,none⟩=some v31/\World.cell? W ⟨H,2,none⟩=some β/\True)/\bW 49 #[(.agg #[v30,v31,β])] W λφ V=>aH φ 0 λχ ψ=>B1 V χ (ψ+Int.toNat 0* 1) λω=>ai (!ω) (aQ V (.cells #[(.int .i64 2)] 3) λb40 w41=>eE 3 1 8 w41 G (.slice (some ⟨b40,0,none⟩) 1 1) λγ δ=>aj (z+1)/\Z γ (z+1) δ/\I γ (z+1) δ< I G z J) (∃v49:Value,∃ε:Value,∃v51:Value,(World.cell? V ⟨H,0,none⟩=some v49/\World.cell? V ⟨H,1,none⟩=some ε/\World.cell? V ⟨H,2,none⟩=some v51/\True)/\bO 45 #[(.agg #[v49,ε,v51])] V λq52 ζ=>ai q52 (aQ ζ (.cells #[(.int .i64 1)] 3) λb54 w55=>eE 3 1 8 w55 G (.slice (some ⟨b54,0,none⟩) 1 1) λη θ=>aj (z+1)/\Z η (z+1) θ/\I η (z+1) θ< I G z J) (aQ ζ (.cells #[(.int .i64 0)] 3) λb63 w64=>eE 3 1 8 w64 G (.slice (some ⟨b63,0,none⟩) 1 1) λv70 ι=>aj (z+1)/\Z v70 (z+1) ι/\I v70 (z+1) ι< I G z J)))) (R G true J))) (R (.slice none 0 0) false w6)) (R (.slice none 0 0) false w4)):
  Calls Tryz.prog 31 #[(.string (ab p1)),t2] w (an [.v,.b] R):=
 aY (aZ [(5,[(6,.v),(26,.i)])] [] []) [.tmp 4 .v,.tmp 5 .b] [.s p1,.v t2] Tryz.func31 (by kernel_rfl) h
theorem qJ (W:ay)(t2:ay)(w:World)(R:Int->Bool->World->Prop)(h:jd 46 #[(.string (ab W)),(.string (ab t2))] w λv3 q4 w5=>ai (!q4) (R 0 false w5) (bL w5 λS6 w7=>az v3 λb8 o9=>jh S6 b8 (o9+0) λI=>bW 50 #[v3] w7 λv11 z=>S6 z/\∃(J:Nat) (G:Value->Option Value),v11= .map (some J)/\IsMap z J .string G/\∃H:Bool,∃g16:Bool,((g16=true/\G (.string (ab I))=some (.bool H))\/(g16=false/\G (.string (ab I))=none/\(Value.bool H)=(.bool false)))/\ai (!H) (R 2 true z) (az v3 λZ α=>aU z Z (α+1) λβ=>bO 47 #[β,(Value.func (Fn.func 48) #[] #[])] z λγ V=>ai γ (R 1 true V) (R 0 true V)))):
  Calls Tryz.prog 68 #[(.string (ab W)),(.string (ab t2))] w (an [.i,.b] R):=
 aY (aZ [] [] [4]) [.tmp 4 .i,.tmp 5 .b] [.s W,.s t2] Tryz.func68 (by kernel_rfl) h
theorem mD (Z:ay)(t2:Value)(w:World)(R:Value->Bool->World->Prop)(h:jd 67 #[(.string (ab Z))] w λv3 q4 w5=>fE (!q4) (bz t2 λl7=>ai (decide (6< (l7:Int))) (R (.slice none 0 0) false w5) (aQ w5 (.cells #[] 3) λb9 α=>bz t2 λβ=>mT ((.slice (some ⟨b9,0,none⟩) 0 0)) 0 α λγ I H z G=>ai (decide (z< (β:Int))) (aH t2 z λδ ε=>ct G δ (ε+z.toNat* 1) λζ=>Ja 68 #[(.string (ab Z)),(.string (ab ζ))] G λη θ J=>ai (!θ) (R (.slice none 0 0) false J) (aQ J (.cells #[(.int .i64 η)] 3) λι κ=>eE 3 1 8 κ H (.slice (some ⟨ι,0,none⟩) 1 1) λV W=>aj (z+1)/\γ V (z+1) W/\I V (z+1) W< I H z G)) (R H true G))) (R (.slice none 0 0) false w5)):
  Calls Tryz.prog 33 #[(.string (ab Z)),t2] w (an [.v,.b] R):=
 aY (aZ [(6,[(8,.v),(28,.i)])] [] []) [.tmp 4 .v,.tmp 5 .b] [.s Z,.v t2] Tryz.func33 (by kernel_rfl) h
theorem gM (J:ay)(a2:Value)(w:World)(R:Bool->World->Prop)(h:ai (decide (1048576< (J.length:Int))) (R true w) (gn 30 #[a2,(.int .i64 1048576)] w λn3 w4=>ai (decide (n3< 0)) (R true w4) (bW 32 #[a2] w4 λv5 w6=>jd 31 #[(.string (ab J)),v5] w6 λv7 q8 w9=>bW 32 #[a2] w9 λv10 δ=>jd 33 #[(.string (ab J)),v10] δ λv12 V ε=>bO 34 #[v12,v7] ε λζ z=>fE (!ζ) (ai (!(V==q8)) (R false z) (bW 32 #[a2] z λη θ=>bO 19 #[v10,η] θ λι W=>ai (!ι) (R false W) (gn 20 #[v10,(.int .i64 1)] W λκ Z=>fE (decide (κ< 0)) (bO 34 #[v12,v7] Z λμ w24=>fE (!μ) (ai (!(V==q8)) (R false w24) (gn 35 #[v12,(.int .i64 1)] w24 λα ν=>gn 36 #[v12,(.int .i64 1)] ν λβ G=>ai (decide (β< 0)) (R false G) (ai (!decide (β=α)) (R false G) (bW 32 #[a2] G λξ ο=>jd 33 #[(.string (ab J)),ξ] ο λv31 ς υ=>bO 34 #[v31,v7] υ λφ H=>fE (!φ) (ai (!(ς==q8)) (R false H) (gn 36 #[v12,(.int .i64 1)] H λγ I=>ai (decide (γ< 0)) (R false I) (ai (!decide (γ=α)) (R false I) (R true I)))) (R false H))))) (R false w24)) (R false Z)))) (R false z)))):
  Calls Tryz.prog 10 #[(.string (ab J)),a2] w (an [.b] R):=
 aY (aZ [] [] []) [.tmp 4 .b] [.s J,.v a2] Tryz.func10 (by kernel_rfl) h
end Go.Proofs.YtdecokaadekjnaaGreat
namespace Go.Proofs.YtdecokaadekjnaaGreat
open Go Go.RowKit T Classical
theorem B0 {p q:Tx}{w:World}{R:Int->Bool->World->Prop}(V:pe p q=none->∀w',Ex w w'->R 0 false w')(z:∀n:Nat,pe p q=some n->∀w',Ex w w'->R n true w'):
  Calls Tryz.prog 68 #[.string (ab p),.string (ab q)] w (an [.i,.b] R):=by
 refine qJ p q w R ?_;refine CY (λI v w' x=>⟨λ _=>V (by unfold pe;rw [I];rfl) w' x,(λh=>by cases h)⟩) λn0 all h1 h2 h3 h4 b r mm L B w' x hB h=>⟨(λh=>by cases h),λ _=>?_⟩
 obtain⟨c,hp⟩:=CN h1 h2;have e0:all.headD []=n0:=by obtain⟨t,rfl⟩:=hp;rfl
 have hm:n0∈all:=hp.subset (by simp);have z:∀w',Ex w w'->R (if Cj all n0=true then(if ∃s∈all,dW s then 1 else 0)else 2:Nat) true w':=λw' x=>z _ (by unfold pe;rw [h2,<-e0];rfl) w' x
 refine⟨λw1=>Ex w' w1,λw7 J=>⟨J▸Ex.drew w',b,0,rfl,n0,λw1 x1=>(h.ex x1).c0,?_⟩⟩;have H:Ex w' w7:=J▸Ex.drew w';refine Fz (h.ex H) h4 h3 c λrr m W G Z α=>⟨Ex.trans H G,rr,m,rfl,Z,Cj all n0,true,.inl ⟨rfl,α _ hm⟩,λI=>?_,λhy=>?_⟩
 ·have I:Cj all n0=false:=by simpa using I
  have :=z W (Ex.trans x (Ex.trans H G));rw [JV (by rw [I];simp)]at this;exact this
 have hy:Cj all n0=true:=by simpa using hy
 rw [hy]at z;have β:=h.ex (Ex.trans H G);obtain⟨v,k1,k2,_⟩:=β.sl;refine⟨b,0,rfl,v,k1,Br k2.strs (by omega) h3 λw2 x2=>⟨λhq=>?_,λhq=>?_⟩⟩
 ·have :=z w2 (Ex.trans x (Ex.trans H (Ex.trans G x2)));rw [Ka rfl,Ka (by simpa using hq)]at this;exact this
 ·have :=z w2 (Ex.trans x (Ex.trans H (Ex.trans G x2)));rw [Ka rfl,JV (by simpa using hq)]at this;exact this
theorem Ev {p:Tx}{ts:List Tx}{w:World}{v2:Value}(β:Strs w v2 ts){R:Value->Bool->World->Prop}(hR:∀v w',Ex w w'->aD tI w.heap.size w' v ((qA p ts).1.map iv)->R v (qA p ts).2 w'):
  Calls Tryz.prog 33 #[.string (ab p),v2] w (an [.v,.b] R):=by
 refine mD p v2 w R ?_;have bad:¬H3 p ts->∀w',Ex w w'->R (.slice none 0 0) false w':=λh w' x=>by
  have :=hR (.slice none 0 0) w' x;rw [xa h]at this;exact this (aD.nil _ _ _)
 obtain⟨a,cap,hv⟩:=β.slice;refine zC λv3 w5 x5=>⟨λW=>?_,λW=>?_⟩
 rotate_left
 ·have W:¬vk p:=by simpa using W
  exact bad (λh=>W h.1) w5 x5
 have W:vk p:=by simpa using W
 refine⟨a,_,cap,hv,λhl=>?_,λhl=>?_⟩
 ·simp only [JD]at hl;exact bad (λh=>by have :=h.2.1;omega) w5 x5
 have hl:ts.length<=6:=by simp only [JE]at hl;omega
 intro b9 γ η J;have θ:Ex w5 γ:=J▸Ex.alloc w5 _;have δ:=Ex.trans x5 θ;have s5:=x5.size;have ι:aD tI w.heap.size γ (.slice (some ⟨b9,0,none⟩) 0 0) []:=by
  subst η J;refine⟨rfl,.inr ⟨_,0,#[],rfl,s5,?_,by simp,by unfold maxLen;omega,rfl,rfl⟩⟩;unfold World.alloc;simp
 refine⟨a,_,cap,hv,λo x w'=>∃j:Nat,x=j/\j<=ts.length/\Ex w w'/\aD tI w.heap.size w' o (((ts.take j).map (vw p)).map iv)/\∀t∈ts.take j,(pe p t).isSome=true,λ _ x _=>(ts.length - x).toNat,⟨0,rfl,Ks _,δ,by simpa using ι,by simp⟩,λo x κ hI=>?_⟩;obtain⟨j,rfl,hj,z,H,G⟩:=hI;refine⟨λμ=>?_,λν=>?_⟩;rotate_left
 ·have e:j=ts.length:=by simp only [JE]at ν;omega
  rw [e,J3]at H G;have :=hR o κ z;rw [uI ⟨W,hl,G⟩]at this;exact this H
 have I:j< ts.length:=by simp only [JD]at μ;omega
 refine β.get z (i:=j) (x:=ts[j]) (by omega) (by rw [JI];exact JC I) (Q:=λn=>_) ?_;refine B0 (λhn w' x=>⟨λ _=>bad (AP I hn) w' (Ex.trans z x),(λh=>by cases h)⟩) λn hn ε Z=>⟨(λh=>by cases h),λ _ φ ξ ζ V=>?_⟩
 have α:Ex ε ξ:=V▸Ex.alloc ε _;have χ:=z.size;have ψ:=Z.size;have ω:=α.size;refine AL (by_:=8) (H.ex (Ex.trans Z α)) (by omega) (re rfl ζ V) (by omega) (by simp only [JY,Kf,Lh];omega) λv' ο ς υ n35=>?_
 have xb:Ex w ο:=Ex.below (Ex.trans z (Ex.trans Z α)) (Kp.below (Kp.aP υ λ _ h=>h) (by omega) λg hg e=>by have :=(H.block g e).1;omega);refine⟨by unfold aj;omega,⟨j+1,by omega,by omega,xb,?_,λt ht=>?_⟩,by show((ts.length:Int) - ((j:Int)+1)).toNat< ((ts.length:Int) - j).toNat;omega⟩
 ·have e:vw p ts[j]=n:=by unfold vw;rw [hn];rfl
  rw [JG I,Kz,Kz];simp only [J9,Lj,e];exact ς
 ·rw [JG I,JN,JO]at ht;rcases ht with ht | rfl
  ·exact G t ht
  ·rw [hn];rfl
set_option maxHeartbeats 1600000 in
theorem BN {s:Tx}{w:World}{R:Value->Bool->World->Prop}(hR1:dB s=none->∀a b c w',oneV a=true->oneV b=true->oneV c=true->Ex w w'->R (.agg #[a,b,c]) false w')
  (hR2:∀n0 all,cy s=some n0->dB s=some all->(∀x∈all,St x)->all.length<=60->∀B b va vn vx ns vs L w',Ex w w'->w.heap.size<=B->oW B b w' va vn vx all ns vs L->vs.length=all.length->R (.agg #[va,vn,vx]) true w'):
  Calls Tryz.prog 54 #[.string (ab s)] w (an [.v,.b] R):=by
 refine qV s w R ?_;intro b2 w3 hb2 ω b4 V hb4 hw5;have x3:Ex w w3:=ω▸Ex.alloc w _;have x5:Ex w3 V:=hw5▸Ex.alloc w3 _;have s3:w3.heap.size=w.heap.size+1:=by rw [ω,size_alloc]
 have s5:V.heap.size=w3.heap.size+1:=by rw [hw5,size_alloc]
 have c2:∀j,j< 3->(∃u,V.cell? ⟨b2,j,none⟩=some u)/\V.frozen? ⟨b2,j,none⟩=false:=λj hj=>by
  refine⟨?_,by rw [K4 x5 (show b2< _ by omega),ω,hb2];exact aO _ _ _ _⟩;rw [x5.cell (a:=⟨b2,j,none⟩) (show b2< _ by omega),ω,hb2]
  match j,hj with
  | 0,_=>exact⟨_,aa rfl⟩
  | 1,_=>exact⟨_,aa rfl⟩
  | 2,_=>exact⟨_,aa rfl⟩
 have c4:∀j,j< 3->∃u,V.cell? ⟨b4,0+j,none⟩=some u:=λj hj=>by
  rw [hw5,hb4,J']
  match j,hj with
  | 0,_=>exact⟨_,aa rfl⟩
  | 1,_=>exact⟨_,aa rfl⟩
  | 2,_=>exact⟨_,aa rfl⟩
 have f4:∀j,V.frozen? ⟨b4,j,none⟩=false:=λj=>by rw [hw5,hb4];exact aO _ _ _ _
 refine⟨⟨rfl,rfl,λj hj=>⟨c4 j hj,by rw [J'];exact f4 j⟩⟩,λw6 hw6=>?_⟩;obtain⟨k6,k6f,_,sc⟩:=a7 (b:=b4) [Value.slice none 0 0,.slice none 0 0,.slice none 0 0] V 0;rw [<-hw6]at k6 k6f sc;have sc:=λj (hj:j< 3)=>sc j c4 hj
 simp only [J']at sc;have s6:=k6.size;have h6:oW b4 b4 w6 (.slice none 0 0) (.slice none 0 0) (.slice none 0 0) [] [] [] λ _=>False:=
  ⟨JL _,by omega,λj=>by rw [k6f];exact f4 j,sc 0 (by omega),sc 1 (by omega),sc 2 (by omega),Own.nil _ _,aD.nil _ _ _,aD.nil _ _ _,(λg hg=>by cases hg),(λg hg=>by cases hg),(λg hg=>by cases hg),λg hg=>hg.elim,λj hj=>by simp at hj⟩
 have b56:Below b4 V w6:=Kp.below k6 (by omega) λg hg e=>by omega
 have x05:Ex w V:=Ex.trans x3 x5;have cb2:∀{w':World},Below b4 V w'->∀j,j< 3->(∃u,w'.cell? ⟨b2,j,none⟩=some u)/\w'.frozen? ⟨b2,j,none⟩=false:=λ{w'} k j hj=>by
  have e:=k.block b2 (by omega);obtain⟨⟨u,h1⟩,h2⟩:=c2 j hj;exact⟨⟨u,by rw [JB (w:=V) e];exact h1⟩,by rw [J8 (w:=V) e];exact h2⟩
 have toEx:∀{w' w2:World},Below b4 V w'->Kp w' w2 (λg=>g=b2)->Ex w w2:=λ{w' w2} k k2=>by
  have :=k.size;exact Ex.below (Ex.below x05 (My k (by omega))) (Kp.below k2 (by omega) λg hg e=>by omega)
 have bad:dB s=none->∀{w':World} {va vn vx:Value} {all:List Tx} {ns:List Nat} {vs:List Value} {L:Nat->Prop},Below b4 V w'->oW b4 b4 w' va vn vx all ns vs L->Iv w' b2 b4 false R:=λhn {w' va vn vx all ns vs L} k h=>
  Ei h (by omega) (cb2 k) λw2 k2 h2=>hR1 hn _ _ _ w2 h2.Bs.1 h2.Bs.2.1 h2.Bs.2.2 (toEx k k2)
 refine uF λw9 x9=>⟨λn0 hst=>⟨(λh=>by cases h),λ _=>?_⟩,λhst=>⟨λ _=>bad (by unfold dB;rw [hst];rfl) (Le b56 (My x9 (by omega))) (h6.ex x9),(λh=>by cases h)⟩⟩
 have hg:dB s=bfs 62 [n0] 0:=by unfold dB;rw [hst];rfl
 have hst0:=ux hst;have s9:=x9.size;have h9:=h6.ex x9;have b9:Below b4 V w9:=Le b56 (My x9 (by omega));intro b17 w18 hb17 hw18;have x18:Ex w9 w18:=hw18▸Ex.alloc w9 _;have o18:Own b4 w18 (.slice (some ⟨b17,0,none⟩) 1 1) ([]++[n0]):=Own.one (by omega) hb17 hw18;obtain⟨f18,g18⟩:=h9.GP (by omega) (Ex.refl w9) o18 (yD x18) λg hg=> .inr (by have:b17=g:=Kt hg;omega)
 refine⟨rfl,f18,λw20 hw20=>?_⟩;obtain⟨h20,b20⟩:=g18 w20 hw20;intro b21 w22 hb21 hw22;have x22:Ex w20 w22:=hw22▸Ex.alloc w20 _;have s20:=b20.size;have o22:aD tI b4 w22 (.slice (some ⟨b21,0,none⟩) 1 1) (([]++[0]).map iv):=aD.one (by omega) hb21 hw22;obtain⟨f22,g22⟩:=h20.GQ (m:=0) (by omega) (Ex.refl w20) o22 (yD x22) λg hg=> .inr (by have:b21=g:=Kt hg;omega)
 refine⟨rfl,f22,λw24 hw24=>?_⟩;obtain⟨h24,b24⟩:=g22 w24 hw24;have bb24:Below b4 V w24:=Le b9 (Le b20 b24);rw [hg]at hR1 hR2 bad;refine⟨λx w'=>∃(i:Nat) (all:List Tx) (va vn vx:Value) (ns:List Nat) (vs:List Value) (L:Nat->Prop),x=i/\i<=all.length/\all.length<=60/\(∀y∈all,St y)/\bfs (62 - i) all i=bfs 62 [n0] 0/\Below b4 V w'/\oW b4 b4 w' va vn vx all ns vs L/\ns.length=all.length/\vs.length=i/\∀n∈ns,n<=i,λx _=>(61 - x).toNat,
  ⟨0,[n0],_,_,_,[0],[],_,rfl,by simp,by simp,(λy hy=>by cases JO.1 hy;exact hst0),rfl,bb24,h24,rfl,rfl,λn hn=>by cases JO.1 hn;omega⟩,λx w28 hO=>?_⟩
 clear hw24 hw22 hw20 hw18 f22 g22 f18 g18 o22 o18 h24 h20 h9 x22 x18 bb24 b24 b20 b9 s20 s9 b56 sc k6 k6f hw6 h6 hw5 ω;obtain⟨i,all,va,vn,vx,ns,vs,L,rfl,hi,h60,hst',υ,γ,ι,hnl,hvl,hnb⟩:=hO;obtain⟨a30,cap30,hva⟩:=ι.a.strs.slice;have s28:=γ.size;refine⟨va,ι.c0,a30,_,cap30,hva,λhlt=>?_,λhge=>?_⟩;rotate_left
 ·have κ:¬i< all.length:=by simp only [JE]at hge;omega
  have e:=(AF h60 κ hi).symm.trans υ;exact Ei ι (by omega) (cb2 γ) λw2 k2 h2=>hR2 _ _ hst e.symm hst' h60 _ _ _ _ _ _ _ _ w2 (toEx γ k2) (by omega) h2 (by omega)
 have κ:i< all.length:=by simp only [JD]at hlt;omega
 refine⟨va,ι.c0,ι.a.strs.get (Ex.refl _) (i:=i) (x:=all[i]) (by omega) (by rw [JI];exact JC κ) (Q:=λn=>_) ?_⟩;obtain⟨t',yM,et⟩:=hst' _ (JM κ);have hnq:=DJ yM;rw [et]at hnq;rw [<-et];refine DY yM (λhn w41 ξ=>⟨λ _=>bad ((xY h60 κ (hnq.trans hn)).symm.trans υ).symm (Le γ (My ξ (by omega))) (ι.ex ξ),(λh=>by cases h)⟩) λl hl ε w41 ξ o39=>⟨(λh=>by cases h),λ _=>?_⟩
 have δ:=hnq.trans hl;have h41:=ι.ex ξ;have bw41:Below b4 V w41:=Le γ (My ξ (by omega));have s41:=ξ.size;refine⟨vx,h41.c2,o39.ka,λb50 w51 hb50 hw51=>?_⟩;have x51:Ex w41 w51:=hw51▸Ex.alloc w41 _;have s51:w51.heap.size=w41.heap.size+1:=by rw [hw51,size_alloc]
 refine AL (by_:=24) ((h41.x).ex x51) (by omega) (re o39.ka hb50 hw51) (by omega) (by simp only [JA,JQ];omega) λv57 w58 o58 g58 n58=>?_
 obtain⟨f58,q58⟩:=ι.Iw (by omega) ξ x51 (by omega) (by subst hvl;exact δ) o39.strs (λg hg=>o39.block g hg) o58 g58 n58;refine⟨o58.ka,f58,λw60 hw60=>?_⟩;obtain⟨h60',b60⟩:=q58 w60 hw60;have bw60:Below b4 V w60:=Le γ b60;have hll:=rz δ;obtain⟨a61,cap61,hv39⟩:=o39.strs.slice;have hlv:vs.length< (vs++[ε]).length:=by simp
 have hls:∀{w':World} {va vn vx:Value} {cur:List Tx} {ns:List Nat} {L':Nat->Prop},all<+:cur->oW b4 b4 w' va vn vx cur ns (vs++[ε]) L'->Strs w' ε l:=λ{w' va vn vx cur ns L'} hp h=>by
  obtain⟨h1,l',h2,h3,_⟩:=h.ls vs.length hlv;have e1:cur[vs.length]=all[i]:=by subst hvl;exact(hp.getElem κ).symm
  have e2:(vs++[ε])[vs.length]=ε:=by rw [List.getElem_append_right (JL _)];simp
  rw [e1,δ]at h2;rw [e2]at h3;cases h2;exact h3
 generalize hL':(λg=>L g\/ε.ownBlock=some g)=L' at*;refine⟨a61,_,cap61,hv39,λx w'=>∃(j:Nat) (va vn vx:Value) (ns:List Nat),x=j/\j<=l.length/\Below b4 V w'/\oW b4 b4 w' va vn vx (bX all (l.take j)) ns (vs++[ε]) L'/\ns.length=(bX all (l.take j)).length/\(∀n∈ns,n<=i+1)/\∀h:i< ns.length,ns[i]<=i,λx _=>(l.length - x).toNat,⟨0,va,vn,v57,ns,rfl,Ks _,bw60,h60',hnl,λn hn=>by have :=hnb n hn;omega,λh=>hnb _ (JM h)⟩,λx w67 hI=>?_⟩;obtain⟨j,va2,W,vx2,z,rfl,hj,μ,H,ζ,ο,hni67⟩:=hI;have hcl:=rQ (l.take j) all;rw [Kf]at hcl;have hpre:all<+:bX all (l.take j):=oA;have hple:=hpre.length_le;have s67:=μ.size;refine⟨λhlt2=>?_,λhge2=>?_⟩;rotate_left
 ·have hjl:j=l.length:=by simp only [JE]at hge2;omega
  subst hjl;rw [J3]at H ζ hpre hple;obtain⟨a78,cap78,hv78⟩:=H.a.strs.slice;refine⟨va2,H.c0,a78,_,cap78,hv78,λI=>?_,λI=>?_⟩
  ·have I:60< (bX all l).length:=by simp only [JD]at I;omega
   exact bad ((AI h60 κ δ I).symm.trans υ).symm μ H
  ·have I:¬60< (bX all l).length:=by simp only [JE]at I;omega
   refine⟨by unfold aj;omega,⟨i+1,bX all l,va2,W,vx2,z,vs++[ε],L',by omega,by omega,by omega,λs hs=>?_,(wY h60 κ δ I).symm.trans υ,μ,H,ζ,by simp [hvl],ο⟩,by show(61 - ((i:Int)+1)).toNat< (61 - (i:Int)).toNat;omega⟩;exact(lF.1 hs).elim (hst' s) (CW w δ s)
 have hjl:j< l.length:=by simp only [JD]at hlt2;omega
 have hmeas:((l.length:Int) - ((j:Int)+1)).toNat< ((l.length:Int) - j).toNat:=by omega
 refine(hls hpre H).get (Ex.refl _) (i:=j) (x:=l[j]) (by omega) (by rw [JI];exact JC hjl) (Q:=λn=>_) ⟨va2,H.c0,uT H.a.strs (by omega) λn74 hn74 _=>⟨λhq=>?_,λhq=>?_⟩⟩;rotate_left
 ·have hq:l[j]∈bX all (l.take j):=by
   simp only [JE]at hq;exact KM λh=>hq (hn74.2 h)
  have e:bX all (l.take (j+1))=bX all (l.take j):=by rw [lN hjl];unfold ke;rw [Ka hq]
  exact⟨by unfold aj;omega,⟨j+1,va2,W,vx2,z,by omega,by omega,μ,by rw [e];exact H,by rw [e];exact ζ,ο,hni67⟩,hmeas⟩
 have hq:l[j]∉bX all (l.take j):=by
  simp only [JD]at hq;exact hn74.1 hq
 have e:bX all (l.take (j+1))=bX all (l.take j)++[l[j]]:=by rw [lN hjl];unfold ke;rw [JV hq]
 refine⟨va2,H.c0,λb77 w78 hb77 hw78=>?_⟩;have x78:Ex w67 w78:=hw78▸Ex.alloc w67 _;have s78:=x78.size;refine Own.push (H.a.ex x78) (by omega) (Strs.one hb77 hw78) (by simp only [JA,JQ];omega) λv84 w85 _ o85 g85 n85=>?_
 obtain⟨f85,q85⟩:=H.GP (by omega) x78 o85 g85 n85;refine⟨o85.ka,f85,λw87 hw87=>⟨λ _=>True,λZ hw89=>⟨trivial,?_⟩⟩⟩;obtain⟨h87,b87⟩:=q85 w87 hw87;have x89:Ex w87 Z:=hw89▸Ex.drew w87;have α:=h87.ex x89;have s87:=b87.size;have s89:=x89.size;have bw89:Below b4 V Z:=Le μ (Le b87 (My x89 (by omega)));have hin:i< z.length:=by omega
 have hni:=hni67 hin;have hrd:∃χ ψ η,W= .slice (some ⟨χ,ψ,none⟩) z.length η/\Z.cell? ⟨χ,ψ+i,none⟩=some (iv z[i]):=by
  rcases α.n.Cg (D:=λ _=>True) λ _ _=>trivial with⟨_,h0⟩ | ⟨b',off,cap',e1,_,_,hc⟩
  ·rw [Mf]at h0;rw [h0]at hin;simp at hin
  ·rw [JY]at e1;exact⟨b',off,cap',e1,hc i _ (by simp [hin])⟩
 obtain⟨χ,ψ,η,e92,hc92⟩:=hrd;have fin:∀(θ:Nat) (β:World),θ=Z.heap.size->β=Z.alloc (.cells #[.int .i64 ((z[i]:Int)+1)] tI)->IV β W (.slice (some ⟨θ,0,none⟩) 1 1) λv104 φ=>True/\oneV v104=true/\((∃u106:Value,World.cell? φ ⟨b4,1,none⟩=some u106)/\World.frozen? φ ⟨b4,1,none⟩=false)/\∀ν:World,ν=World.setCell φ ⟨b4,1,none⟩ v104->True/\aj ((j:Int)+1)/\(∃(j':Nat) (va vn vx:Value) (ns:List Nat),(j:Int)+1=j'/\j'<=l.length/\Below b4 V ν/\oW b4 b4 ν va vn vx (bX all (l.take j')) ns (vs++[ε]) L'/\ns.length=(bX all (l.take j')).length/\(∀n∈ns,n<=i+1)/\∀h:i< ns.length,ns[i]<=i)/\((l.length:Int) - ((j:Int)+1)).toNat< ((l.length:Int) - j).toNat:=λθ β J G=>by
  have x98:Ex Z β:=G▸Ex.alloc Z _;have s98:=x98.size;have ei:Value.int .i64 ((z[i]:Int)+1)=iv (z[i]+1):=rfl;refine AL (by_:=8) (α.n.ex x98) (by omega) (re rfl J G) (by omega) (by simp only [JY,JA,JQ];omega) λv104 φ o105 g105 n105=>?_
  rw [ei,show z.map iv++[iv (z[i]+1)]=(z++[z[i]+1]).map iv by simp]at o105;obtain⟨f105,q105⟩:=α.GQ (by omega) x98 o105 g105 n105;refine⟨trivial,o105.ka,f105,λν hw107=>?_⟩;obtain⟨h107,b107⟩:=q105 ν hw107;refine⟨trivial,by unfold aj;omega,⟨j+1,_,_,_,_,by omega,by omega,Le bw89 b107,by rw [e];exact h107,by rw [e];simp [ζ],λn hn=>?_,λh=>?_⟩,hmeas⟩
  ·rcases JN.1 hn with hn | hn
   ·exact ο n hn
   ·cases JO.1 hn;omega
  ·rw [Md hin];exact hni
 have hInR:aj ((z[i]:Int)+1):=by unfold aj;omega
 have ς:Z.cell? ⟨χ,ψ+Int.toNat (i:Int)* 1,none⟩=some (.int .i64 (z[i]:Int)):=by rw [JI,Kc];exact hc92
 refine⟨⟨W,α.c1,trivial,W,α.c1,trivial,χ,ψ,_,η,e92,by omega,by omega,_,ς,trivial,hInR,λθ β J G=>⟨trivial,fin θ β J G⟩⟩,W,α.c1,trivial,χ,ψ,_,η,e92,by omega,by omega,⟨W,α.c1,trivial,_,ς,trivial,hInR,λθ β J G=>⟨trivial,fin θ β J G⟩⟩,_,ς,trivial,hInR,⟨W,α.c1,trivial,λθ β J G=>⟨trivial,fin θ β J G⟩⟩,λb139 w140 hb139 hw140=>⟨trivial,W,?_,trivial,fin b139 w140 hb139 hw140⟩⟩;rw [(show Ex Z w140 from hw140▸Ex.alloc Z _).cell (a:=⟨b4,1,none⟩) α.lt];exact α.c1
theorem Cx {H:Off UInt8}{z a b:UInt8}{s:Tx}{q:Bool}{k:UInt8}(J:k≠126)(h:tP H (fI z a b s q)):∀c,H.over k=some c↔z=k/\c=a:=by
 intro c;cases H with
 | tau p=>
  obtain⟨_,_,_,h⟩:=h;unfold fI at h;simp only [Kw,KY,Mb,LD]at h;have G:z=126:=J4.1 (by omega);exact⟨(λh=>by cases h),λh=>absurd (h.1.symm.trans G) J⟩
 | snd c d p=>
  obtain⟨_,h⟩:=h;unfold fI at h;simp only [Kw,KY,Mb,LD]at h;have G:z=33:=J4.1 (by omega);have I:a=c:=J4.1 (by omega);rw [xF,G,I]
 | rcv c d p V=>
  unfold tP fI at h;simp only [Kw,KY,Mb,LD]at h;have G:z=63:=J4.1 (by omega);have I:a=c:=J4.1 (by omega);rw [xH,G,I]
def Gs (k:UInt8)(t:P)(l:List (Off UInt8))(c:UInt8):Prop:=∃o∈l,o.over k=some c/\c∉t.frL
theorem Es {k:UInt8}{t:P}{l m:List (Off UInt8)}{c:UInt8}:Gs k t (l++m) c↔Gs k t l c\/Gs k t m c:=by
 unfold Gs;constructor
 ·rintro⟨o,z,h⟩
  exact(JN.1 z).imp (λG=>⟨o,G,h⟩) λG=>⟨o,G,h⟩
 ·rintro(⟨o,z,h⟩ | ⟨o,z,h⟩)
  ·exact⟨o,Ke _ z,h⟩
  ·exact⟨o,J7 _ z,h⟩
theorem yH {s:Tx}{k:UInt8}(hk:k≠126){w:World}{R:ay->Bool->World->Prop}(hR:∀w',Ex w w'->(cy s=none->R [] false w')/\∀n,cy s=some n->R (wP k n) true w'):
  Calls Tryz.prog 96 #[.string (ab s),.int .u8 k.toNat] w (an [.s,.b] R):=by
 refine tw s k w R ?_;refine uF λw5 x5=>⟨λn V=>⟨(λh=>by cases h),λ _=>?_⟩,λV=>⟨λ _=>(hR w5 x5).1 V,(λh=>by cases h)⟩⟩
 obtain⟨t,ok,rfl⟩:=ux V;have hR:∀w',Ex w w'->R (Bl k t) true w':=λw' x=>by have :=(hR w' x).2 _ V;rwa [AU ok]at this
 have su:=ok.su;obtain⟨hn,δ⟩:=wh ok;have μ:Ok t:=uw ok.al ok.good;have ν:∀q∈t.ths,Ok q:=λq hq=>⟨(su.al q hq).wf,by rw [aT];have :=(δ q hq).2;omega⟩
 have hfl:t.frL.length<=1099511627776:=by have :=zW t;have :=ok.len;omega
 refine pM μ (qp μ ok.nr λv9 w10 x10 o9=>?_);have ξ:=o9.strs;obtain⟨a,cap,hv⟩:=ξ.slice;rw [JY]at hv;refine⟨a,_,cap,hv,λout x w'=>∃i:Nat,x=i/\i<=t.ths.length/\Ex w10 w'/\jm out/\∀c,c∈out↔Gs k t ((t.ths.take i).flatMap offs) c,λ _ x _=>(t.ths.length - x).toNat,⟨0,rfl,Ks _,Ex.refl _,jm.nil,by simp [Gs]⟩,λout x w18 hI=>?_⟩;obtain⟨i,rfl,hi,ε,ο,hm⟩:=hI;refine⟨λhlt=>?_,λhge=>?_⟩;rotate_left
 ·have hil:i=t.ths.length:=by simp only [JE]at hge;omega
  rw [hil,J3]at hm;have:out=Bl k t:=zh ο (FE k t) λc=>by
   rw [hm,Ax su];constructor
   ·rintro⟨o,W,h1,h2⟩
    obtain⟨q,hq,W⟩:=Kv.1 W;exact⟨h2,q,hq,o,W,h1⟩
   ·rintro⟨h2,q,hq,o,W,h1⟩
    exact⟨o,Kv.2 ⟨q,hq,W⟩,h1,h2⟩
  rw [this];exact hR w18 (Ex.trans x5 (Ex.trans x10 ε))
 have ζ:i< t.ths.length:=by simp only [JD]at hlt;omega
 have Z:=JM ζ;have eT:(t.ths.take (i+1)).flatMap offs=(t.ths.take i).flatMap offs++offs t.ths[i]:=by rw [JG ζ,KV];simp
 refine ξ.get ε (i:=i) (x:=t.ths[i].text) (by omega) (by simp [ζ]) (Q:=λn=>_) (ni _ (JL _) (ν _ Z) (su.smpP _ Z) (by have :=(δ _ Z).1;omega) λv24 ς xs x25 υ m24=>?_);obtain⟨a26,η,H⟩:=υ.slice;have hm1:((t.ths.length:Int) - ((i:Int)+1)).toNat< ((t.ths.length:Int) - i).toNat:=by omega
 have hol:(offs t.ths[i]).length<=60:=by have :=fF t.ths[i];have :=(δ _ Z).1;omega
 generalize hos:offs t.ths[i]=os at*;refine⟨a26,_,η,H,λout x w'=>∃j:Nat,x=j/\j<=os.length/\Ex ς w'/\jm out/\∀c,c∈out↔Gs k t ((t.ths.take i).flatMap offs++os.take j) c,λ _ x _=>(os.length - x).toNat,⟨0,rfl,Ks _,Ex.refl _,ο,by simpa using hm⟩,λγ x w33 hI=>?_⟩;obtain⟨j,rfl,hj,θ,I,α⟩:=hI;refine⟨λφ=>?_,λχ=>?_⟩;rotate_left
 ·have β:j=os.length:=by simp only [JE]at χ;omega
  rw [β,J3,<-eT]at α;exact⟨by unfold aj;omega,⟨i+1,by omega,by omega,Ex.trans ε (Ex.trans x25 θ),I,α⟩,hm1⟩
 have β:j< os.length:=by simp only [JD]at φ;omega
 have ψ:((os.length:Int) - ((j:Int)+1)).toNat< ((os.length:Int) - j).toNat:=by omega
 obtain⟨g,ω,cs,hvg,hcs,z⟩:=rV (υ.ex θ) m24 β;obtain⟨kk,ca,cb,cs3,cq,rfl⟩:=hcs.any;rw [H]at hvg;refine⟨g,0,_,ω,H.trans hvg,by omega,by omega,kk,ca,cb,cs3,cq,⟨z 0 _ rfl _ (by omega) (by omega),z 1 _ rfl _ (by omega) (by omega),z 2 _ rfl _ (by omega) (by omega),z 3 _ rfl _ (by omega) (by omega),z 4 _ rfl _ (by omega) (by omega),trivial⟩,λb43 w44 hb43 hw44=>?_⟩;obtain⟨box1,box2⟩:=Hd (cs:=fI kk ca cb cs3 cq) rfl rfl hb43 hw44;refine⟨⟨rfl,sR,box1⟩,λw45 hw45=>?_⟩;obtain⟨x45,l45,ι⟩:=box2 w45 hw45;have J:=Ex.trans θ x45;have κ:=Cx hk hcs;have etk:(t.ths.take i).flatMap offs++os.take (j+1)=((t.ths.take i).flatMap offs++os.take j)++[os[j]]:=by rw [JG β,Kg]
 have skip:∀{w':World},Ex w45 w'->(¬(kk=k/\ca∉t.frL))->aj ((j:Int)+1)/\(∃j':Nat,(j:Int)+1=j'/\j'<=os.length/\Ex ς w'/\jm γ/\∀c,c∈γ↔Gs k t ((t.ths.take i).flatMap offs++os.take j') c)/\((os.length:Int) - ((j:Int)+1)).toNat< ((os.length:Int) - j).toNat:=λ{w'} x h=>by
  refine⟨by unfold aj;omega,⟨j+1,by omega,by omega,Ex.trans J x,I,λc=>?_⟩,ψ⟩;rw [etk,Es,α];have:¬Gs k t [os[j]] c:=by
   rintro⟨o,W,h1,h2⟩
   cases JO.1 W;obtain⟨h3,h4⟩:=(κ c).1 h1;exact h ⟨h3,h4▸h2⟩
  simp [this]
 refine⟨kk,ι 0 (by omega),λG=>⟨ca,ι 1 (by omega),gE hfl ⟨λhn=>⟨ca,ι 1 (by omega),?_⟩,λhn=>skip (Ex.refl _) ?_⟩⟩,λG=>skip (Ex.refl _) ?_⟩
 ·have G:kk=k:=by simpa using G
  have hn:ca∉t.frL:=by simpa using hn
  refine fc I λs' w52 x52 hs' hm'=>⟨by unfold aj;omega,⟨j+1,by omega,by omega,Ex.trans J x52,hs',λc=>?_⟩,ψ⟩
  rw [hm',etk,Es,α];have:Gs k t [os[j]] c↔c=ca:=by
   constructor
   ·rintro⟨o,W,h1,h2⟩
    cases JO.1 W;exact((κ c).1 h1).2
   ·rintro rfl
    exact⟨_,JO.2 rfl,(κ _).2 ⟨G,rfl⟩,hn⟩
  rw [this];exact or_comm
 ·have hn:ca∈t.frL:=by simpa using hn
  exact λh=>h.2 hn
 ·have G:kk≠k:=by simpa using G
  exact λh=>G h.1
theorem Bo {s:Tx}(H:St s){w:World}{R:ay->ay->World->Prop}(I:∀w',Ex w w'->R (wP 33 s) (wP 63 s) w'):
  Calls Tryz.prog 103 #[.string (ab s)] w (an [.s,.s] R):=by
 obtain⟨t,ok,rfl⟩:=H;have z:=BL ok;refine qX _ w R ?_;refine qD _ w _ ?_;refine yH (k:=33) (by decide) λw1 J=>⟨(λh=>by rw [z]at h;cases h),λn G=>?_⟩
 rw [z]at G;cases G;refine ng _ w1 _ ?_;refine yH (k:=63) (by decide) λw2 V=>⟨(λh=>by rw [z]at h;cases h),λn G=>?_⟩
 rw [z]at G;cases G;exact I w2 (Ex.trans J V)
theorem DH (k:UInt8)(s:Tx):(wP k s).length<=26:=by
 have:nR.length=26:=by simp [nR]
 unfold wP;split
 ·exact this▸LG _ _
 ·simp
theorem rT {s:Tx}(z:St s){w:World}{R:Bool->World->Prop}(G:∀w',Ex w w'->R (decide (dW s)) w'):
  Calls Tryz.prog 89 #[.string (ab s)] w (an [.b] R):=by
 refine pJ _ w R ?_;have :=DH 33 s;refine Bo z λw1 H=>gE (c:=119) (by omega) ?_
 have h:=G w1 H;have e:decide (dW s)=decide (119∈wP 33 s):=LK.2 Ml;rw [e]at h;exact h
theorem Fh {w:World}{va vn vx:Value}{l:List Tx}(h:Strs w va l)(hl:l.length<=1099511627776)(hs:∀s∈l,St s){R:Bool->World->Prop}(Z:∀w',Ex w w'->R (decide (∃s∈l,dW s)) w'):
  Calls Tryz.prog 45 #[.agg #[va,vn,vx]] w (an [.b] R):=by
 refine tQ _ w R ?_;refine⟨[va,vn,vx],rfl,λb3 w4 J H=>?_⟩;have x4:Ex w w4:=H▸Ex.alloc w _;have hc:w4.cell? ⟨b3,0,none⟩=some va:=by rw [H,J];exact aa rfl
 obtain⟨ao,cap,hv⟩:=h.slice;refine⟨va,hc,ao,_,cap,hv,λi w'=>∃j:Nat,i=j/\j<=l.length/\Ex w w'/\∀s∈l.take j,¬dW s,λi _=>(l.length - i).toNat,⟨0,rfl,Ks _,x4,by simp⟩,λi w' hI=>?_⟩;obtain⟨j,rfl,hj,x,hm⟩:=hI;refine⟨λV=>?_,λW=>?_⟩
 ·have z:j< l.length:=by simp only [JD]at V;omega
  refine h.get x (i:=j) (x:=l[j]) (by omega) (by rw [JI];exact JC z) (Q:=λn=>_) ?_;refine rT (hs _ (JM z)) λw2 x2=>⟨λhe=>?_,λG=>?_⟩
  ·have he:dW l[j]:=by simpa using he
   have :=Z w2 (Ex.trans x x2);rw [KH ⟨_,JM z,he⟩]at this;exact this
  ·have G:¬dW l[j]:=by simpa using G
   refine⟨by unfold aj;omega,⟨j+1,by omega,by omega,Ex.trans x x2,λs I=>?_⟩,by show((l.length:Int) - ((j:Int)+1)).toNat< ((l.length:Int) - j).toNat;omega⟩;rw [JG z,JN,JO]at I;exact I.elim (hm s) λe=>e▸G
 ·have:j=l.length:=by simp only [JE]at W;omega
  rw [this,J3]at hm;have :=Z w' x;rw [KI (fun⟨s,h1,h2⟩=>hm s h1 h2)]at this;exact this
theorem sq {w:World}{b3:Nat}{x y z:Value}(hx:oneV x=true)(hy:oneV y=true)(hz:oneV z=true)(hc:∀j,j< 3->(∃u,w.cell? ⟨b3,j,none⟩=some u)/\w.frozen? ⟨b3,j,none⟩=false){R:Value->World->Prop}(hR:∀w',Kp w w' (λg=>g=b3)->R (.agg #[x,y,z]) w'):
  (List.length [x,y,z]=3/\List.all [x,y,z] oneV=true/\∀j,j< 3->(∃u,World.cell? w ⟨b3,0+j,none⟩=some u)/\World.frozen? w ⟨b3,0+j,none⟩=false)/\∀G:World,G=World.setCells w b3 0 [x,y,z]->∃I:Value,∃J:Value,∃V:Value,(World.cell? G ⟨b3,0,none⟩=some I/\World.cell? G ⟨b3,1,none⟩=some J/\World.cell? G ⟨b3,2,none⟩=some V/\True)/\R (.agg #[I,J,V]) G:=by
 refine⟨⟨rfl,by simp [hx,hy,hz],λj W=>by rw [J'];exact hc j W⟩,λw1 Z=>?_⟩;obtain⟨k,_,_,H⟩:=a7 (b:=b3) [x,y,z] w 0;rw [<-Z]at k H;have H:=λj (W:j< 3)=>H j (λi hi=>by rw [J'];exact(hc i hi).1) W
 simp only [J']at H;exact⟨x,y,z,⟨H 0 (by omega),H 1 (by omega),H 2 (by omega),trivial⟩,hR w1 k⟩
theorem zx {w w1:World}{b3 e:Nat}{x y z:Value}(hb:b3=w.heap.size)(h:w1=w.alloc (.cells #[x,y,z] e)):∀{w':World},Ex w1 w'->∀j,j< 3->(∃u,w'.cell? ⟨b3,j,none⟩=some u)/\w'.frozen? ⟨b3,j,none⟩=false:=λ{w'} k j G=>by
 have s1:w1.heap.size=w.heap.size+1:=by rw [h,size_alloc]
 rw [k.cell (a:=⟨b3,j,none⟩) (show b3< _ by omega),K4 k (show b3< _ by omega),h,hb];refine⟨?_,aO _ _ _ _⟩
 match j,G with
 | 0,_=>exact⟨_,aa rfl⟩
 | 1,_=>exact⟨_,aa rfl⟩
 | 2,_=>exact⟨_,aa rfl⟩
theorem Bh {p q:Tx}{w:World}{R:Value->Bool->World->Prop}(γ:j9 p q=none->∀a b c w',oneV a=true->oneV b=true->oneV c=true->Ex w w'->R (.agg #[a,b,c]) false w')
  (ι:∀n0 all,cy ([40]++p++[38]++q++[41])=some n0->j9 p q=some all->(∀x∈all,St x)->all.length<=60->∀B b va vn vx ns vs L w',Ex w w'->w.heap.size<=B->oW B b w' va vn vx all ns vs L->vs.length=all.length->R (.agg #[va,vn,vx]) true w'):
  Calls Tryz.prog 44 #[.string (ab p),.string (ab q)] w (an [.v,.b] R):=by
 refine qO p q w R ?_;intro b3 w4 κ J;have x4:Ex w w4:=J▸Ex.alloc w _;have s4:w4.heap.size=w.heap.size+1:=by rw [J,size_alloc]
 have c3:=λ{w':World} (x:Ex w4 w')=>zx κ J x
 have G:∀{w1 w2:World},Ex w4 w1->Kp w1 w2 (λg=>g=b3)->Ex w w2:=λ{w1 w2} x k=>Ex.below (Ex.trans x4 x) (Kp.below k (Ex.trans x4 x).size λg hg e=>by omega)
 have bad:=λ{w1:World} (x:Ex w4 w1) (hn:j9 p q=none)=>sq (x:=Value.slice none 0 0) (y:=Value.slice none 0 0) (z:=Value.slice none 0 0) rfl rfl rfl (c3 x) (R:=λv w'=>R v false w') λw2 k=>γ hn _ _ _ w2 rfl rfl rfl (G x k)
 have δ:¬vk p->j9 p q=none:=λh=>by unfold j9;rw [JV λh'=>h h'.1]
 have ε:¬vk q->j9 p q=none:=λh=>by unfold j9;rw [JV λh'=>h h'.2]
 refine vK λb1 w6 x6 μ ζ=>⟨λhb=>?_,λhb=>?_⟩
 rotate_left
 ·exact bad x6 (δ (ζ (by simpa using hb)))
 obtain⟨t1,V,rfl,g1⟩:=μ (by simpa using hb);refine ju (uw V g1) λw8 x8=>⟨λW=>?_,λW=>?_⟩
 rotate_left
 ·exact bad (Ex.trans x6 x8) (δ (ry V (by simpa using W)))
 have ν:t1.smp=true:=by simpa using W
 have Z:=Ex.trans x6 x8;refine vK λb2 υ α ξ η=>⟨λhb=>?_,λhb=>?_⟩
 rotate_left
 ·exact bad (Ex.trans Z α) (ε (η (by simpa using hb)))
 obtain⟨t2,β,rfl,g2⟩:=ξ (by simpa using hb);refine ju (uw β g2) λφ θ=>⟨λW=>?_,λW=>?_⟩
 ·exact bad (Ex.trans Z (Ex.trans α θ)) (ε (ry β (by simpa using W)))
 have ο:t2.smp=true:=by simpa using W
 have H:=Ex.trans Z (Ex.trans α θ);have χ:=g1.1;have ψ:=g2.1;have e:j9 t1.text t2.text=dB ([40]++t1.text++[38]++t2.text++[41]):=by unfold j9;rw [Ka ⟨⟨t1,V,rfl,g1,ν⟩,⟨t2,β,rfl,g2,ο⟩⟩]
 refine⟨?_,?_,?_,?_,BN (λhn a b c w' ha hb hc x=>⟨[a,b,c],rfl,?_⟩) λn0 all h1 h2 h3 h4 B b va vn vx ns vs L w' x hB h ς=>⟨[va,vn,vx],rfl,?_⟩⟩
 rotate_right
 ·have I:=Ex.trans H x;obtain⟨o1,o2,o3⟩:=h.Bs;have ω:=H.size;exact sq o1 o2 o3 (c3 I) (R:=λv w'=>R v true w') λw2 k=>ι n0 all h1 (e.trans h2) h3 h4 B b va vn vx ns vs L w2 (G I k) (by omega) (h.kp (Kp.mono (λg e=>by omega) k)) ς
 rotate_right
 ·have I:=Ex.trans H x;exact sq ha hb hc (c3 I) (R:=λv w'=>R v false w') λw2 k=>γ (e.trans hn) a b c w2 ha hb hc (G I k)
 all_goals simp only [JJ,JA,JQ];omega
theorem aD.cell {e B:Nat}{w:World}{v:Value}{l:List Value}(h:aD e B w v l):(v= .slice none 0 0/\l=[])\/∃g cap,v= .slice (some ⟨g,0,none⟩) l.length cap/\g< w.heap.size/\∀j u,l[j]?=some u->w.cell? ⟨g,j,none⟩=some u:=by
 have I:=h.1;rcases h.2 with⟨G,H⟩ | ⟨g,cap,cur,rfl,hb,z,J,V,W,h4⟩
 ·left;exact⟨G,J6 H⟩
 ·refine .inr ⟨g,cap,rfl,(Kj.1 z).1,λj u hu=>?_⟩;have Z:j< l.length:=(Ky.1 hu).1;unfold World.cell?;simp only [z];rw [<-h4,K7 (by omega),Lg]at hu;exact hu
structure Gv (w:World)(va vx:Value)(all:List Tx):Prop where
 a:Strs w va all
 x:∀j (h:j< all.length),∃g cap v l,vx= .slice (some ⟨g,0,none⟩) all.length cap/\w.cell? ⟨g,0+(j:Int).toNat* 1,none⟩=some v/\g< w.heap.size/\ue all[j]=some l/\Strs w v l
theorem Gv.ex {w w':World}{va vx:Value}{all:List Tx}(h:Gv w va vx all)(x:Ex w w'):Gv w' va vx all:=by
 refine⟨h.a.ex x,λj z=>?_⟩;obtain⟨g,cap,v,l,G,H,I,h4,h5⟩:=h.x j z;have :=x.size;exact⟨g,cap,v,l,G,by rw [x.cell (a:=⟨g,_,none⟩) I];exact H,by omega,h4,h5.ex x⟩
theorem oW.gv {B b:Nat}{w:World}{va vn vx:Value}{all:List Tx}{ns:List Nat}{vs:List Value}{L:Nat->Prop}(h:oW B b w va vn vx all ns vs L)(z:vs.length=all.length):Gv w va vx all:=by
 refine⟨h.a.strs,λj V=>?_⟩;obtain⟨W,l,G,H,_⟩:=h.ls j (by omega);rcases h.x.cell with⟨_,e⟩ | ⟨g,cap,e,I,J⟩
 ·rw [e]at z;simp at z;omega
 ·exact⟨g,cap,_,l,by rw [e,z],by rw [show 0+(j:Int).toNat* 1=j by omega];exact J j _ (JC (by omega)),I,G,H⟩
structure xz (w:World)(b:Nat)(all:List Tx)(P:Nat->Prop)(f:Tx->Bool)(w':World):Prop where
 ex:Ex w w'
 lb:w.heap.size<=b
 lt:b< w'.heap.size
 fr:∀j,w'.frozen? ⟨b,j,none⟩=false
 ce:∀j,j< all.length->∃u,w'.cell? ⟨b,j,none⟩=some u
 ok:∀j (h:j< all.length),P j->w'.cell? ⟨b,j,none⟩=some (.bool (f all[j]))
section
variable {w w1 w2:World} {b:Nat} {all:List Tx} {P:Nat->Prop} {f:Tx->Bool}
theorem xz.to (h:xz w b all P f w1)(x:Ex w1 w2):xz w b all P f w2:=by
 have :=x.size;have z:=h.lt;exact⟨Ex.trans h.ex x,h.lb,by omega,λj=>by rw [K4 x z];exact h.fr j,λj G=>by rw [x.cell (a:=⟨b,j,none⟩) z];exact h.ce j G,λj G H=>by rw [x.cell (a:=⟨b,j,none⟩) z];exact h.ok j G H⟩
theorem xz.set (h:xz w b all P f w1)(nd:all.Nodup){j off:Nat}(G:j< all.length)(H:off=j){q:Bool}(hw:w2=w1.setCell ⟨b,off,none⟩ (.bool q)):xz w b all (λi=>P i\/i=j) (put f all[j] q) w2:=by
 subst H;have k:Kp w1 w2 (λg=>g=b):=hw▸Kr.set w1 off _;have W:=h.lt;have Z:=k.size;have lb:=h.lb;obtain⟨u,hu⟩:=h.ce off G;have same:w2.cell? ⟨b,off,none⟩=some (.bool q):=by rw [hw];exact JT _ _ _ hu
 have other:∀i,i≠off->w2.cell? ⟨b,i,none⟩=w1.cell? ⟨b,i,none⟩:=λi z=>by rw [hw];exact JH _ _ _ _ λe=>by injection e with e1 I;exact z I.symm
 refine⟨Ex.below h.ex (Kp.below k h.ex.size λg hg e=>by omega),lb,by omega,λi=>by rw [hw,JU];exact h.fr i,λi z=>?_,λi z J=>?_⟩
 ·by_cases e:i=off
  ·exact⟨_,e▸same⟩
  ·rw [other i e];exact h.ce i z
 ·unfold put;by_cases e:i=off
  ·subst e;rw [Ka rfl];exact same
  ·rw [JV λV=>e ((List.getElem_inj nd).1 V),other i e];exact h.ok i z (J.resolve_right e)
theorem xz.mono {H:Nat->Prop}{I:Tx->Bool}(h:xz w b all P f w1)(J:∀j (G:j< all.length),H j->P j/\I all[j]=f all[j]):xz w b all H I w1:=
 ⟨h.ex,h.lb,h.lt,h.fr,h.ce,λj G z=>by rw [(J j G z).2];exact h.ok j G (J j G z).1⟩
theorem xz.cnt (h:xz w b all (λ _=>True) f w1):Proofs.YtdecokaadekjnaaGreat.cnt all (λs=>decide (∃j,∃h:j< all.length,all[j]=s/\w1.cell? ⟨b,j,none⟩=some (.bool true)))=Proofs.YtdecokaadekjnaaGreat.cnt all f:=by
 unfold Proofs.YtdecokaadekjnaaGreat.cnt;refine List.countP_congr λs G=>?_
 rw [JD];constructor
 ·rintro⟨j,z,rfl,e⟩
  rw [h.ok j z trivial]at e;simpa using e
 ·intro e;obtain⟨j,z,rfl⟩:=KA.1 G;exact⟨j,z,rfl,by rw [h.ok j z trivial,e]⟩
end
theorem zS {w:World}{va vn vx:Value}{all:List Tx}(h:Gv w va vx all)(hl:all.length<=60)(hs:∀s∈all,St s)(c:Fs all all.length){R:Value->World->Prop}
  (hR:∀b w',Ex w w'->b< w'.heap.size->(∀j (h:j< all.length),w'.cell? ⟨b,j,none⟩=some (.bool (Cj all all[j])))->R (.slice (some ⟨b,0,none⟩) (all.length:Int).toNat (all.length:Int).toNat) w'):
  Calls Tryz.prog 49 #[.agg #[va,vn,vx]] w (an [.v] R):=by
 refine p7 _ w R ?_;refine⟨[va,vn,vx],rfl,λb3 J η W=>?_⟩;have x4:Ex w J:=W▸Ex.alloc w _;have s4:J.heap.size=w.heap.size+1:=by rw [W,size_alloc]
 have c0:∀{w'},Ex J w'->w'.cell? ⟨b3,0,none⟩=some va:=λ{w'} x=>by rw [x.cell (a:=⟨b3,0,none⟩) (show b3< _ by omega),W,η];exact aa rfl
 have c2:∀{w'},Ex J w'->w'.cell? ⟨b3,2,none⟩=some vx:=λ{w'} x=>by rw [x.cell (a:=⟨b3,2,none⟩) (show b3< _ by omega),W,η];exact aa rfl
 have h4:=h.ex x4;obtain⟨ao,cap,hv⟩:=h.a.slice;refine⟨va,c0 (Ex.refl _),ao,_,cap,hv,⟨by omega,rfl,by omega⟩,λb9 θ ξ H=>?_⟩;have ο:Ex J θ:=H▸Ex.alloc J _;have s10:θ.heap.size=J.heap.size+1:=by rw [H,size_alloc]
 have i10:xz J b9 all (λ _=>False) (λs=> !decide (dW s)) θ:=⟨ο,by omega,by omega,λj=>by rw [H,ξ];exact aO _ _ _ _,λj hj=>⟨.bool false,by rw [H,ξ];exact aa (by simp [hj])⟩,λj _ h=>h.elim⟩
 clear H W η;have ej:∀j:Nat,0+(j:Int).toNat* 1=j:=λj=>by omega
 refine⟨va,c0 ο,ao,_,cap,hv,λx w'=>∃j:Nat,x=j/\j<=all.length/\xz J b9 all (λi=>i< j) (λs=> !decide (dW s)) w',λx _=>(all.length - x).toNat,⟨0,rfl,Ks _,i10.mono λj _ h=>by omega⟩,λx w18 hI=>?_⟩;obtain⟨j,rfl,hj,i18⟩:=hI;refine⟨λι=>?_,λα=>?_⟩
 ·have z:j< all.length:=by simp only [JD]at ι;omega
  refine h4.a.get i18.ex (i:=j) (x:=all[j]) (by omega) (by rw [JI];exact JC z) (Q:=λn=>_) ?_;refine rT (hs _ (JM z)) λw25 x25=>⟨b9,0,_,_,rfl,by omega,by omega,?_⟩
  have i25:=i18.to x25;dsimp only;rw [ej j];refine⟨⟨i25.ce j z,i25.fr j⟩,λw31 ς=>⟨by unfold aj;omega,⟨j+1,by omega,by omega,(i25.set c.nd z rfl ς).mono λi hi h=>⟨by omega,?_⟩⟩,by show((all.length:Int) - ((j:Int)+1)).toNat< ((all.length:Int) - j).toNat;omega⟩⟩;unfold put;split
  ·rename_i e;rw [e]
  ·rfl
 have z:j=all.length:=by simp only [JE]at α;omega
 have i18:xz J b9 all (λ _=>True) (λs=> !decide (dW s)) w18:=i18.mono λi hi _=>⟨by omega,rfl⟩
 refine⟨λa w'=>∃(k:Nat) (f:Tx->Bool),xz J b9 all (λ _=>True) f w'/\f=Au all (λs=> !decide (dW s)) k/\(a=false->yu all f=f),λa w'=>2* cnt all (λs=>decide (∃j,∃h:j< all.length,all[j]=s/\w'.cell? ⟨b9,j,none⟩=some (.bool true)))+a.toNat,⟨0,_,i18,rfl,λh=>by cases h⟩,λa' υ hI=>?_⟩;clear i18 z α hj i10;obtain⟨k,f,i34,hf,φ⟩:=hI;refine⟨λha=>?_,λha=>?_⟩;rotate_left
 ·have e:=CK hf (φ ha);exact hR b9 υ (Ex.trans x4 i34.ex) i34.lt λj hj=>by rw [e];exact i34.ok j hj trivial
 subst ha;refine⟨va,c0 i34.ex,ao,_,cap,hv,λa' x w'=>∃(j:Nat) (I:Tx->Bool),x=j/\j<=all.length/\xz J b9 all (λ _=>True) I w'/\I=yu (all.take j) f/\GV all f a' I,λ _ x _=>(all.length - x).toNat,⟨0,f,rfl,Ks _,i34,rfl,.inl ⟨rfl,rfl⟩⟩,λa' x κ hI=>?_⟩;obtain⟨j,I,rfl,hj,i44,β,γ⟩:=hI;refine⟨λι=>?_,λα=>?_⟩;rotate_left
 ·have z:j=all.length:=by simp only [JE]at α;omega
  rw [z,J3]at β;refine⟨⟨k+1,I,i44,by rw [β,hf];rfl,λha=>?_⟩,?_⟩
  ·rcases γ with⟨_,e⟩ | ⟨e,_⟩
   ·rw [e];exact β.symm.trans e
   ·rw [e]at ha;cases ha
  ·show 2* cnt all (λs=>decide (∃j,∃h:j< all.length,all[j]=s/\κ.cell? ⟨b9,j,none⟩=some (.bool true)))+a'.toNat< 2* cnt all (λs=>decide (∃j,∃h:j< all.length,all[j]=s/\υ.cell? ⟨b9,j,none⟩=some (.bool true)))+1;rw [i44.cnt,i34.cnt];rcases γ with⟨rfl,e⟩ | ⟨rfl,e⟩
   ·rw [e];simp
   ·simp only [Bool.toNat_true];omega
 have z:j< all.length:=by simp only [JD]at ι;omega
 have χ:=JM z;have et:yu (all.take (j+1)) f=eh I all[j]:=by rw [xW z,<-β]
 have ψ:((all.length:Int) - ((j:Int)+1)).toNat< ((all.length:Int) - j).toNat:=by omega
 have skip:¬Hw I all[j]->aj ((j:Int)+1)/\(∃(j':Nat) (μ:Tx->Bool),(j:Int)+1=j'/\j'<=all.length/\xz J b9 all (λ _=>True) μ κ/\μ=yu (all.take j') f/\GV all f a' μ)/\((all.length:Int) - ((j:Int)+1)).toNat< ((all.length:Int) - j).toNat:=
  λhk=>⟨by unfold aj;omega,⟨j+1,I,by omega,by omega,i44,by rw [et,r8 hk],γ⟩,ψ⟩
 obtain⟨g,ε,v,l,ω,hx2,hx3,ν,hx5⟩:=(h4.ex i44.ex).x j z;have δ:H4 all[j]=l:=CL ν;obtain⟨l',hl1,hl2⟩:=c.nx χ;rw [ν]at hl1;cases hl1;have hll:=rz ν;obtain⟨al,ζ,hvl⟩:=hx5.slice;refine⟨b9,0,_,_,rfl,by omega,by omega,I all[j],by rw [ej];exact i44.ok j z trivial,λhy=>?_,λhy=>skip λhk=>by rw [hk.1]at hy;cases hy⟩;have hy:I all[j]=true:=by simpa using hy
 refine⟨vx,c2 i44.ex,g,0,_,ε,ω,by omega,by omega,v,hx2,al,_,ζ,hvl,λhlen=>skip λhk=>?_,λhlen=>?_⟩
 ·simp only [JD]at hlen;exact hk.2.1 (by rw [δ];exact J6 (by omega))
 have hlen:l≠[]:=λe=>by subst e;simp at hlen
 refine⟨vx,c2 i44.ex,g,0,_,ε,ω,by omega,by omega,v,hx2,al,_,ζ,hvl,λs x w'=>w'=κ/\∃i:Nat,x=i/\i<=l.length/\s=decide (∃m∈l.take i,I m=true),λ _ x _=>(l.length - x).toNat,⟨rfl,0,rfl,Ks _,by simp⟩,λs x w72 hI=>?_⟩;obtain⟨rfl,i,rfl,hi,G⟩:=hI;refine⟨λhlt2=>?_,λhge2=>?_⟩
 ·have V:i< l.length:=by simp only [JD]at hlt2;omega
  have hm2:((l.length:Int) - ((i:Int)+1)).toNat< ((l.length:Int) - i).toNat:=by omega
  refine hx5.get (Ex.refl _) (i:=i) (x:=l[i]) (by omega) (by rw [JI];exact JC V) (Q:=λn=>_) ⟨λhf=>?_,λht=>?_⟩
  ·refine⟨va,c0 i44.ex,uT (h4.ex i44.ex).a (by omega) λn hn1 hn2=>?_⟩;have h0:0<=n:=by
    refine KM λh=>(hn1.1 (by omega)) (hl2 _ (JM V))
   obtain⟨h1,h2⟩:=hn2 h0;refine⟨b9,0,_,_,rfl,h0,by omega,I l[i],by rw [show 0+n.toNat* 1=n.toNat by omega,<-h2];exact i44.ok _ h1 trivial,by unfold aj;omega,⟨rfl,i+1,by omega,by omega,?_⟩,hm2⟩;rw [hf]at G;have G:=J1 G.symm;rw [JG V];cases e:I l[i]with
   | true=>exact(KH ⟨l[i],J7 _ (JO.2 rfl),e⟩).symm
   | false=>exact(KI fun⟨m,hm,Z⟩=>by
     rcases JN.1 hm with hm | hm
     ·exact G ⟨m,hm,Z⟩
     ·rw [JO.1 hm,e]at Z;cases Z).symm
  ·refine⟨by unfold aj;omega,⟨rfl,i+1,by omega,by omega,?_⟩,hm2⟩;rw [ht]at G;obtain⟨m,hm,Z⟩:=J0 G.symm;exact(KH ⟨m,by rw [JG V];exact Ke _ hm,Z⟩).symm
 have V:i=l.length:=by simp only [JE]at hge2;omega
 rw [V,J3]at G;refine⟨λhn=>?_,λhn=>?_⟩
 ·have hq:∀m∈l,I m=false:=by
   rw [G]at hn;simpa using hn
  have hk:Hw I all[j]:=⟨hy,by rw [δ];exact hlen,by rw [δ];exact hq⟩
  refine⟨b9,0,_,_,rfl,by omega,by omega,?_⟩;dsimp only;rw [ej j];refine⟨⟨i44.ce j z,i44.fr j⟩,λw91 hw91=>⟨by unfold aj;omega,⟨j+1,eh I all[j],by omega,by omega,(i44.set c.nd z rfl hw91).mono λi hi _=>⟨.inl trivial,?_⟩,et.symm,γ.eh χ hk⟩,ψ⟩⟩;unfold eh;rw [Ka hk]
 ·refine skip λhk=>?_
  have:∃m∈l,I m=true:=by rw [G]at hn;simpa using hn
  obtain⟨m,h1,h2⟩:=this;rw [hk.2.2 m (by rw [δ];exact h1)]at h2;cases h2
theorem HK {p:Tx}{ts:List Tx}{w:World}{v2:Value}(δ:Strs w v2 ts){R:Value->Bool->World->Prop}(hR:∀v w',Ex w w'->aD tI w.heap.size w' v ((qA p ts).1.map iv)->R v (qA p ts).2 w'):
  Calls Tryz.prog 31 #[.string (ab p),v2] w (an [.v,.b] R):=by
 refine mu p v2 w R ?_;have bad:¬H3 p ts->∀w',Ex w w'->R (.slice none 0 0) false w':=λh w' x=>by
  have :=hR (.slice none 0 0) w' x;rw [xa h]at this;exact this (aD.nil _ _ _)
 obtain⟨a,cap,hv⟩:=δ.slice;refine vK λb1 w4 x4 ν ε=>⟨λhb=>?_,λhb=>?_⟩
 rotate_left
 ·exact bad (λh=>ε (by simpa using hb) h.1) w4 x4
 obtain⟨t1,α,rfl,g1⟩:=ν (by simpa using hb);refine ju (uw α g1) λw6 x6=>⟨λhs=>?_,λhs=>?_⟩
 rotate_left
 ·exact bad (λh=>ry α (by simpa using hs) h.1) w6 (Ex.trans x4 x6)
 have hp:vk t1.text:=⟨t1,α,rfl,g1,by simpa using hs⟩
 have ζ:=Ex.trans x4 x6;refine⟨a,_,cap,hv,λhl=>?_,λhl=>⟨a,_,cap,hv,?_⟩⟩
 ·simp only [JD]at hl;exact bad (λh=>by have :=h.2.1;omega) w6 ζ
 have hl:ts.length<=6:=by simp only [JE]at hl;omega
 refine⟨λo x w'=>∃j:Nat,x=j/\j<=ts.length/\Ex w w'/\aD tI w.heap.size w' o (((ts.take j).map (vw t1.text)).map iv)/\∀t∈ts.take j,(pe t1.text t).isSome=true,λ _ x _=>(ts.length - x).toNat,⟨0,rfl,Ks _,ζ,aD.nil _ _ _,by simp⟩,λo x η hI=>?_⟩;obtain⟨j,rfl,hj,I,W,J⟩:=hI;refine⟨λξ=>?_,λο=>?_⟩;rotate_left
 ·have e:j=ts.length:=by simp only [JE]at ο;omega
  rw [e,J3]at W J;have :=hR o η I;rw [uI ⟨hp,hl,J⟩]at this;exact this W
 have Z:j< ts.length:=by simp only [JD]at ξ;omega
 refine δ.get I (i:=j) (x:=ts[j]) (by omega) (by rw [JI];exact JC Z) (Q:=λn=>_) ?_;have s17:=I.size;have z:∀{n:Nat} {w1:World},Ex η w1->pe t1.text ts[j]=some n->∀(b:Nat) (w2:World),b=w1.heap.size->w2=w1.alloc (.cells #[.int .i64 n] tI)->
   eE tI 1 8 w2 o (.slice (some ⟨b,0,none⟩) 1 1) λv' w3=>aj ((j:Int)+1)/\(∃j':Nat,(j:Int)+1=j'/\j'<=ts.length/\Ex w w3/\aD tI w.heap.size w3 v' (((ts.take j').map (vw t1.text)).map iv)/\∀t∈ts.take j',(pe t1.text t).isSome=true)/\((ts.length:Int) - ((j:Int)+1)).toNat< ((ts.length:Int) - j).toNat:=λ{n w1} x1 hn b w2 hb θ=>by
  have x2:Ex w1 w2:=θ▸Ex.alloc w1 _;have s1:=x1.size;have s2:=x2.size;refine AL (by_:=8) (W.ex (Ex.trans x1 x2)) (by omega) (re rfl hb θ) (by omega) (by simp only [JY,Kf,Lh];omega) λv' ς υ φ n35=>?_
  have xb:Ex w ς:=Ex.below (Ex.trans I (Ex.trans x1 x2)) (Kp.below (Kp.aP φ λ _ h=>h) (by omega) λg hg e=>by have :=(W.block g e).1;omega);refine⟨by unfold aj;omega,⟨j+1,by omega,by omega,xb,?_,λt ht=>?_⟩,by omega⟩
  ·have e:vw t1.text ts[j]=n:=by unfold vw;rw [hn];rfl
   rw [JG Z,Kz,Kz];simp only [J9,Lj,e];exact υ
  ·rw [JG Z,JN,JO]at ht;rcases ht with ht | rfl
   ·exact J t ht
   ·rw [hn];rfl
 refine Bh (λhn a b c w5 ha hb hc x b6 w7 β G=>⟨[a,b,c],rfl,?_⟩) λn0 all h1 h2 h3 h4 B b va vn vx ns vs L w5 x hB h χ b6 w7 β G=>⟨[va,vn,vx],rfl,?_⟩
 ·have x7:Ex w5 w7:=G▸Ex.alloc w5 _;obtain⟨k1,k2⟩:=sq ha hb hc (zx β G (Ex.refl w7)) (R:=λ _ H=>Kp w7 H λg=>g=b6) λH k=>k
  refine⟨k1,λH γ=>⟨λ _=>?_,(λh=>by cases h)⟩⟩;obtain⟨_,_,_,_,k⟩:=k2 H γ;exact bad (AP Z (by unfold pe;rw [hn];rfl)) H (Ex.trans I (Ex.below (Ex.trans x x7) (Kp.below k (Ex.trans x x7).size λg hg e=>by have :=x.size;omega)))
 have x7:Ex w5 w7:=G▸Ex.alloc w5 _;have s7:w7.heap.size=w5.heap.size+1:=by rw [G,size_alloc]
 obtain⟨o1,o2,o3⟩:=h.Bs;obtain⟨k1,k2⟩:=sq o1 o2 o3 (zx β G (Ex.refl w7)) (R:=λv H=>v= .agg #[va,vn,vx]/\Kp w7 H λg=>g=b6) λH k=>⟨rfl,k⟩
 refine⟨k1,λH γ=>⟨(λh=>by cases h),λ _=>?_⟩⟩;obtain⟨r1,r2,r3,hc,ι,k⟩:=k2 H γ;have s9:=k.size;simp only [Value.agg.injEq,Array.mk.injEq,Kw,Mb]at ι;obtain⟨rfl,rfl,rfl⟩:=ι;have x9:Ex w5 H:=Ex.below x7 (Kp.below k x7.size λg hg e=>by omega);have g9:=(h.gv χ).ex x9;refine⟨r1,r2,r3,hc,?_⟩;obtain⟨c,κ⟩:=CN h1 h2;have h0:0< all.length:=by have :=κ.length_le;simp only [Lh]at this;omega
 have e0:all.headD []=all[0]:=by cases all with
  | nil=>simp at h0
  | cons a l=>rfl
 have eo:pe t1.text ts[j]=some (if Cj all all[0]=true then(if ∃s∈all,dW s then 1 else 0)else 2):=by unfold pe;rw [h2,<-e0];rfl
 refine zS g9 h4 h3 c λb' ψ V hb' ω=>⟨b',0,_,_,rfl,by omega,by omega,_,ω 0 h0,λhn=>?_,λhy=>?_⟩
 ·have hn:Cj all all[0]=false:=by simpa using hn
  rw [JV (by rw [hn];simp)]at eo;exact z (Ex.trans x (Ex.trans x9 V)) eo
 have hy:Cj all all[0]=true:=by simpa using hy
 rw [Ka hy]at eo;have cc:∀j,ψ.cell? ⟨b6,j,none⟩=H.cell? ⟨b6,j,none⟩:=λj=>V.cell (a:=⟨b6,j,none⟩) (show b6< _ by omega)
 refine⟨r1,r2,r3,by rw [cc,cc,cc];exact hc,?_⟩;refine Fh (g9.a.ex V) (by omega) h3 λw53 μ=>⟨λhq=>?_,λhq=>?_⟩
 ·rw [Ka (by simpa using hq)]at eo;exact z (Ex.trans x (Ex.trans x9 (Ex.trans V μ))) eo
 ·rw [JV (by simpa using hq)]at eo;exact z (Ex.trans x (Ex.trans x9 (Ex.trans V μ))) eo
end Go.Proofs.YtdecokaadekjnaaGreat
namespace Go.Proofs.YtdecokaadekjnaaGreat
open Go
set_option maxRecDepth 100000
theorem oI (H:Value)(b2:Value)(w:World)(R:Bool->World->Prop)(h:bz H λl4=>bz b2 λl7=>ai (!decide ((l4:Int)=(l7:Int))) (R false w) (fJ 0 w λI9 I i11 z=>bz H λV=>ai (decide (i11< (V:Int))) (bL z λJ G=>aH H i11 λb18 W=>jh J b18 (W+i11.toNat* 1) λZ=>aH b2 i11 λα β=>jh J α (β+i11.toNat* 1) λγ=>ai (!decide (Z=γ)) (R false G) (aj (i11+1)/\I9 (i11+1) G/\I (i11+1) G< I i11 z)) (R true z))):
  Calls Tryz.prog 19 #[H,b2] w (an [.b] R):=
 aY (aZ [(4,[(5,.i)])] [] [6]) [.tmp 4 .b] [.v H,.v b2] Tryz.func19 (by kernel_rfl) h
theorem pF (V:Int)(w:World)(R:ay->World->Prop)(h:ai (decide (V<=0)) (R ([109,48]) w) (IT V ([]) w λI2 m3 G H W=>ai (decide (0< G)) ((0<=G/\0< (10:Int))/\aj (48+(G % 10))/\aQ W (.cells #[(.int .u8 (UInt8.toNat (UInt8.ofNat (Int.toNat ((48+(G % 10)) % 256)))))] 5) λb7 Z=>∃(b9 I J α:Nat) (z:ay),(Value.slice (some ⟨b7,0,none⟩) 1 1)= .slice (some ⟨b9,I,none⟩) J α/\z.length=J/\(∀(j:Nat) (x:UInt8),z[j]?=some x->World.cell? Z ⟨b9,I+j,none⟩=some (.int .u8 x.toNat))/\(z.length+H.length<=4611686018427387904)/\(0<=G/\0< (10:Int)/\aj G)/\I2 (G / 10) (z++H) Z/\m3 (G / 10) (z++H) Z< m3 G H W) ((List.length [109]+H.length<=4611686018427387904)/\R ([109]++H) W))):
  Calls Tryz.prog 53 #[(.int .i64 V)] w (an [.s] R):=
 aY (aZ [(4,[(0,.i),(3,.s)])] [] []) [.tmp 2 .s] [.i V] Tryz.func53 (by kernel_rfl) h
theorem mK (H:Value)(I:Int)(w:World)(R:Int->World->Prop)(h:ve I 0 w λI3 m4 z i6 J=>bz H λl9=>ai (decide (i6< (l9:Int))) (bj 53 #[(.int .i64 z)] J λV W=>aH H i6 λZ α=>bf W Z (α+i6.toNat* 1) (.string (ab V)) λG=>aj (z+1)/\aj (i6+1)/\I3 (z+1) (i6+1) G/\m4 (z+1) (i6+1) G< m4 z i6 J) (R z J)):
  Calls Tryz.prog 20 #[H,(.int .i64 I)] w (an [.i] R):=
 aY (aZ [(2,[(1,.i),(5,.i)])] [] []) [.tmp 4 .i] [.v H,.i I] Tryz.func20 (by kernel_rfl) h
end Go.Proofs.YtdecokaadekjnaaGreat
namespace Go.Proofs.YtdecokaadekjnaaGreat
open Go Go.RowKit T Classical
theorem Im {w:World}{v v':Value}{l z:List Tx}(h:Strs w v l)(h':Strs w v' z)(hl:l.length<=1000000000){R:Bool->World->Prop}(V:∀w',Ex w w'->R (decide (l=z)) w'):
  Calls Tryz.prog 19 #[v,v'] w (an [.b] R):=by
 refine oI v v' w R ?_;obtain⟨a,c,hv⟩:=h.slice;obtain⟨a',c',W⟩:=h'.slice;refine⟨a,_,c,hv,a',_,c',W,λH=>?_,λhe=>?_⟩
 ·have H:l.length≠z.length:=by
   have:¬((l.length:Int)=z.length):=by simpa using H
   omega
  have :=V w (Ex.refl w)
  rwa [KI λe=>H (by rw [e])]at this
 have he:l.length=z.length:=by
  have:(l.length:Int)=z.length:=by simpa using he
  omega
 refine⟨λi w'=>∃j:Nat,i=j/\j<=l.length/\Ex w w'/\l.take j=z.take j,λi _=>(l.length - i).toNat,⟨0,rfl,Ks _,Ex.refl w,rfl⟩,λi w' hI=>?_⟩;obtain⟨j,rfl,hj,x,Z⟩:=hI;refine⟨a,_,c,hv,λα=>?_,λβ=>?_⟩
 ·have J:j< l.length:=by simp only [JD]at α;omega
  have G:j< z.length:=by omega
  obtain⟨b1,o1,c1,e1,e2,e3⟩:=(h.ex x).at J;obtain⟨b2,o2,c2,f1,f2,f3⟩:=(h'.ex x).at G;refine⟨λw2=>Ex w' w2,λw2 I=>⟨I▸Ex.drew w',b1,o1,_,c1,e1,by omega,by omega,l[j],λw3 x3=>?_,b2,o2,_,c2,f1,by omega,by omega,z[j],λw3 x3=>?_,λhn=>?_,λhy=>?_⟩⟩
  ·rw [x3.cell (a:=⟨b1,_,none⟩) e2,Kc,JI];exact e3
  ·rw [x3.cell (a:=⟨b2,_,none⟩) f2,Kc,JI];exact f3
  ·have hn:l[j]≠z[j]:=by simpa using hn
   have :=V w2 (Ex.trans x (I▸Ex.drew w'))
   rwa [KI λe=>hn (by subst e;rfl)]at this
  ·have hy:l[j]=z[j]:=by simpa using hy
   refine⟨by unfold aj;omega,⟨j+1,by omega,by omega,Ex.trans x (I▸Ex.drew w'),by rw [JG J,JG G,Z,hy]⟩,by show((l.length:Int) - ((j:Int)+1)).toNat< ((l.length:Int) - j).toNat;omega⟩
 ·have e:j=l.length:=by simp only [JE]at β;omega
  subst e;rw [J3,he,J3]at Z;have :=V w' x
  rwa [KH Z]at this
def dg (k:Nat)(o:Tx):Tx:=if h:k=0 then o else dg (k / 10) (UInt8.ofNat (Int.toNat ((48+((k:Int) % 10)) % 256))::o)
termination_by k
decreasing_by omega
def mt (k:Nat):Tx:=if k=0 then [109,48]else 109::dg k []
theorem zf {k:Nat}(V:k<=1099511627776){w:World}{R:ay->World->Prop}(I:∀w',Ex w w'->R (mt k) w'):
  Calls Tryz.prog 53 #[.int .i64 k] w (an [.s] R):=by
 refine pF k w R ?_;refine⟨λh=>?_,λh=>?_⟩
 ·have h:k=0:=by simp only [JD]at h;omega
  have :=I w (Ex.refl w);unfold mt at this
  rwa [Ka h]at this
 have h:k≠0:=by simp only [JE]at h;omega
 refine⟨λx o w'=>∃n:Nat,x=n/\Ex w w'/\dg n o=dg k []/\o.length+n<=k,λx _ _=>x.toNat,⟨k,rfl,Ex.refl w,rfl,by simp⟩,λx o w' J=>?_⟩;obtain⟨n,rfl,x,hd,W⟩:=J;refine⟨λz=>?_,λz=>?_⟩
 ·have z:n≠0:=by simp only [JD]at z;omega
  refine⟨⟨by omega,by omega⟩,by unfold aj;omega,λb Z hb G=>?_⟩;refine⟨b,0,1,1,[UInt8.ofNat (Int.toNat ((48+((n:Int) % 10)) % 256))],rfl,rfl,λj x H=>?_,by simp only [Lh];omega,⟨by omega,by omega,by unfold aj;omega⟩,⟨n / 10,by omega,Ex.trans x (G▸Ex.alloc w' _),?_,by simp only [JJ,Lh];omega⟩,by show((n:Int) / 10).toNat< (n:Int).toNat;omega⟩
  ·cases j with
   | zero=>
    have H:UInt8.ofNat (Int.toNat ((48+((n:Int) % 10)) % 256))=x:=by simpa using H
    rw [G,hb,<-H];exact aa rfl
   | succ j=>simp at H
  ·rw [<-hd]
   conv=>rhs;rw [dg]
   rw [dif_neg z];rfl
 ·have z:n=0:=by simp only [JE]at z;omega
  subst z;rw [dg,dif_pos rfl]at hd;refine⟨by simp only [Lh];omega,?_⟩;have :=I w' x;unfold mt at this;rw [JV h,<-hd]at this;exact this
def Dv (n:Nat):List Tx:=(List.range n).map λi=>mt (i+1)
theorem vC (n:Nat):(Dv n).length=n:=by simp [Dv]
theorem D7 (n:Nat):Dv (n+1)=Dv n++[mt (n+1)]:=by simp [Dv,LR]
theorem ES {l:List Tx}{i:Nat}(h:i< l.length):(Dv i++l.drop i).set i (mt (i+1))=Dv (i+1)++l.drop (i+1):=by
 rw [List.set_append_right _ _ (by rw [vC];exact JL _),vC,MY,Kx h,List.set_cons_zero,D7,Kg];rfl
theorem AK {B:Nat}{w w':World}{g cap n j:Nat}{l:List Tx}{x:Tx}(h:Own B w (.slice (some ⟨g,0,none⟩) n cap) l)(hw:w'=w.setCell ⟨g,j,none⟩ (.string (ab x)))(G:j< l.length):Own B w' (.slice (some ⟨g,0,none⟩) n cap) (l.set j x):=by
 have H:aD 9 B w (.slice (some ⟨g,0,none⟩) n cap) (l.map sv):=by unfold aD;rw [JY];exact h
 have z:=H.set hw (by rw [JY];exact G);unfold aD at z;rw [La,JY]at z;unfold Own;rw [La,MJ];exact z
theorem FI {B:Nat}{w:World}{v:Value}{l:List Tx}(h:Own B w v l)(hl:l.length<=1000000000){R:Int->World->Prop}(hR:∀w',Kp w w' (λg=>v.ownBlock=some g)->Own B w' v (Dv l.length)->R (l.length+1:Nat) w'):
  Calls Tryz.prog 20 #[v,.int .i64 1] w (an [.i] R):=by
 refine mK v 1 w R ?_;obtain⟨a,c,hv⟩:=h.strs.slice;refine⟨λk i w'=>∃j:Nat,i=j/\k=j+1/\j<=l.length/\Kp w w' (λg=>v.ownBlock=some g)/\Own B w' v (Dv j++l.drop j),λ _ i _=>(l.length - i).toNat,⟨0,rfl,rfl,Ks _,Kp.ah (Ex.refl w) _,by simpa [Dv]using h⟩,λk i w' hI=>?_⟩;obtain⟨j,rfl,rfl,hj,kp,I⟩:=hI;refine⟨a,_,c,hv,λJ=>?_,λV=>?_⟩
 ·have W:j< l.length:=by simp only [JD]at J;omega
  refine zf (k:=j+1) (by omega) λw2 x2=>?_
  have z:=I.ex x2;have hlen:(Dv j++l.drop j).length=l.length:=by rw [JJ,vC,K1];omega
  rcases z.2 with⟨_,hn⟩ | ⟨g,cap,cur,G,hb,hg,_⟩
  ·omega
  have Z:v.ownBlock=some g:=nK G;obtain⟨b1,o1,c1,e1,e2,e3⟩:=z.strs.at (i:=j) (by omega);have e:=G.symm.trans e1;simp only [Value.slice.injEq,KP,Addr.mk.injEq]at e;obtain⟨⟨rfl,rfl,_⟩,_,_⟩:=e;have ej:0+(j:Int).toNat* 1=j:=by omega
  refine⟨g,0,_,_,G,by omega,by omega,?_⟩;dsimp only;rw [ej];rw [J']at e3;refine⟨⟨⟨_,e3⟩,?_⟩,λw3 H=>⟨by unfold aj;omega,by unfold aj;omega,⟨j+1,by omega,by omega,by omega,?_,?_⟩,by omega⟩⟩
  ·unfold World.frozen?;simp only [hg];simp
  ·rw [H];exact(kp.trans (Kp.ah x2 λg=>v.ownBlock=some g) λ _ _ h=>h).set Z _
  ·rw [G]at z|-;have :=AK z H (by omega)
   rwa [ES W]at this
 ·have e:j=l.length:=by simp only [JE]at V;omega
  subst e;rw [Ld,Kb]at I;exact hR w' kp I
end Go.Proofs.YtdecokaadekjnaaGreat
namespace Go.Proofs.YtdecokaadekjnaaGreat
open Go
set_option maxRecDepth 100000
theorem oD (I:Value)(J:Int)(w:World)(R:Int->World->Prop)(h:bz I λl4=>aj (J - (l4:Int))/\ai (decide ((J - (l4:Int))< 0)) (R (-1) w) (ve ((J - (l4:Int))) 0 w λI6 m7 H i9 z=>bz I λV=>ai (decide (i9< (V:Int))) (aH I i9 λW Z=>ct z W (Z+i9.toNat* 1) λG=>aj (H - (G.length:Int))/\ai (decide ((H - (G.length:Int))< 0)) (R (-1) z) (aj (i9+1)/\I6 ((H - (G.length:Int))) (i9+1) z/\m7 ((H - (G.length:Int))) (i9+1) z< m7 H i9 z)) (R H z))):
  Calls Tryz.prog 30 #[I,(.int .i64 J)] w (an [.i] R):=
 aY (aZ [(5,[(1,.i),(5,.i)])] [] []) [.tmp 4 .i] [.v I,.i J] Tryz.func30 (by kernel_rfl) h
theorem nX (H:Value)(w:World)(R:Value->World->Prop)(h:bz H λz=>(0<=((z:Int):Int)/\((z:Int):Int)=(z:Int)/\(z:Int)<=1099511627776)/\aQ w (.cells (List.toArray (List.replicate (Int.toNat (z:Int)) (.string ⟨#[]⟩))) 9) λb5 w6=>fJ 0 w6 λI7 m8 i9 G=>bz H λI=>ai (decide (i9< (I:Int))) (aH H i9 λJ V=>ct G J (V+i9.toNat* 1) λW=>aH (.slice (some ⟨b5,0,none⟩) (Int.toNat (z:Int)) (Int.toNat (z:Int))) i9 λZ α=>bf G Z (α+i9.toNat* 1) (.string (ab W)) λw24=>aj (i9+1)/\I7 (i9+1) w24/\m8 (i9+1) w24< m8 i9 G) (R ((.slice (some ⟨b5,0,none⟩) (Int.toNat (z:Int)) (Int.toNat (z:Int)))) G)):
  Calls Tryz.prog 32 #[H] w (an [.v] R):=
 aY (aZ [(3,[(4,.i)])] [] []) [.tmp 2 .v] [.v H] Tryz.func32 (by kernel_rfl) h
theorem tv (H:Value)(b2:Value)(w:World)(R:Bool->World->Prop)(h:bz H λl4=>bz b2 λl7=>ai (!decide ((l4:Int)=(l7:Int))) (R false w) (fJ 0 w λI9 I i11 z=>bz H λV=>ai (decide (i11< (V:Int))) (bL z λJ G=>aH H i11 λb18 W=>ji J b18 (W+i11.toNat* 1) λZ=>aH b2 i11 λα β=>ji J α (β+i11.toNat* 1) λγ=>ai (!decide (Z=γ)) (R false G) (aj (i11+1)/\I9 (i11+1) G/\I (i11+1) G< I i11 z)) (R true z))):
  Calls Tryz.prog 34 #[H,b2] w (an [.b] R):=
 aY (aZ [(4,[(5,.i)])] [] [6]) [.tmp 4 .b] [.v H,.v b2] Tryz.func34 (by kernel_rfl) h
theorem qd (H:Value)(I:Int)(w:World)(R:Int->World->Prop)(h:ve I 0 w λZ m4 z i6 J=>bz H λl9=>ai (decide (i6< (l9:Int))) (aH H i6 λV W=>bf J V (W+i6.toNat* 1) (.int .i64 z) λG=>aj (z+1)/\aj (i6+1)/\Z (z+1) (i6+1) G/\m4 (z+1) (i6+1) G< m4 z i6 J) (R z J)):
  Calls Tryz.prog 35 #[H,(.int .i64 I)] w (an [.i] R):=
 aY (aZ [(2,[(1,.i),(5,.i)])] [] []) [.tmp 4 .i] [.v H,.i I] Tryz.func35 (by kernel_rfl) h
theorem qg (H:Value)(I:Int)(w:World)(R:Int->World->Prop)(h:ve I 0 w λZ m4 z i6 G=>bz H λl9=>ai (decide (i6< (l9:Int))) (aH H i6 λJ V=>oH G J (V+i6.toNat* 1) λW=>ai (!decide (W=z)) (R (-1) G) (aj (z+1)/\aj (i6+1)/\Z (z+1) (i6+1) G/\m4 (z+1) (i6+1) G< m4 z i6 G)) (R z G)):
  Calls Tryz.prog 36 #[H,(.int .i64 I)] w (an [.i] R):=
 aY (aZ [(2,[(1,.i),(5,.i)])] [] []) [.tmp 4 .i] [.v H,.i I] Tryz.func36 (by kernel_rfl) h
end Go.Proofs.YtdecokaadekjnaaGreat
namespace Go.Proofs.YtdecokaadekjnaaGreat
open Go Go.RowKit T Classical
theorem aD.slice {e B:Nat}{w:World}{v:Value}{l:List Value}(h:aD e B w v l):∃a cap,v= .slice a l.length cap:=by
 rcases h.cell with⟨rfl,rfl⟩ | ⟨g,cap,e,_⟩
 ·exact⟨_,_,rfl⟩
 ·exact⟨_,_,e⟩
theorem aD.num {e B:Nat}{w:World}{v:Value}{l:List Nat}(h:aD e B w v (l.map iv)){j:Nat}(z:j< l.length):∃g cap,v= .slice (some ⟨g,0,none⟩) l.length cap/\g< w.heap.size/\w.cell? ⟨g,0+(j:Int).toNat* 1,none⟩=some (.int .i64 l[j]):=by
 rcases h.cell with⟨_,G⟩ | ⟨g,cap,e,H,I⟩
 ·have:(l.map iv).length=0:=by rw [G];rfl
  rw [JY]at this;omega
 ·rw [JY]at e;refine⟨g,cap,e,H,?_⟩;rw [show 0+(j:Int).toNat* 1=j by omega];exact I j _ (by rw [Lw,JC z];rfl)
theorem D0 {e B e' B':Nat}{w:World}{v v':Value}{l z:List Nat}(h:aD e B w v (l.map iv))(h':aD e' B' w v' (z.map iv))(hl:l.length<=1000000000){R:Bool->World->Prop}(W:∀w',Ex w w'->R (decide (l=z)) w'):
  Calls Tryz.prog 34 #[v,v'] w (an [.b] R):=by
 refine tv v v' w R ?_;obtain⟨a,c,Z⟩:=h.slice;obtain⟨a',c',J⟩:=h'.slice;rw [JY]at Z J;refine⟨a,_,c,Z,a',_,c',J,λH=>?_,λhe=>?_⟩
 ·have H:l.length≠z.length:=by
   have:¬((l.length:Int)=z.length):=by simpa using H
   omega
  have :=W w (Ex.refl w)
  rwa [KI λe=>H (by rw [e])]at this
 have he:l.length=z.length:=by
  have:(l.length:Int)=z.length:=by simpa using he
  omega
 refine⟨λi w'=>∃j:Nat,i=j/\j<=l.length/\Ex w w'/\l.take j=z.take j,λi _=>(l.length - i).toNat,⟨0,rfl,Ks _,Ex.refl w,rfl⟩,λi w' hI=>?_⟩;obtain⟨j,rfl,hj,x,ht⟩:=hI;refine⟨a,_,c,Z,λα=>?_,λβ=>?_⟩
 ·have V:j< l.length:=by simp only [JD]at α;omega
  have G:j< z.length:=by omega
  obtain⟨b1,c1,e1,e2,e3⟩:=(h.ex x).num V;obtain⟨b2,c2,f1,f2,f3⟩:=(h'.ex x).num G;refine⟨λw2=>Ex w' w2,λw2 I=>⟨I▸Ex.drew w',b1,0,_,c1,e1,by omega,by omega,l[j],λw3 x3=>?_,b2,0,_,c2,f1,by omega,by omega,z[j],λw3 x3=>?_,λhn=>?_,λhy=>?_⟩⟩
  ·rw [x3.cell (a:=⟨b1,_,none⟩) e2];exact e3
  ·rw [x3.cell (a:=⟨b2,_,none⟩) f2];exact f3
  ·have hn:l[j]≠z[j]:=by
    have:¬((l[j]:Int)=z[j]):=by simpa using hn
    omega
   have :=W w2 (Ex.trans x (I▸Ex.drew w'))
   rwa [KI λe=>hn (by subst e;rfl)]at this
  ·have hy:l[j]=z[j]:=by
    have:(l[j]:Int)=z[j]:=by simpa using hy
    omega
   refine⟨by unfold aj;omega,⟨j+1,by omega,by omega,Ex.trans x (I▸Ex.drew w'),by rw [JG V,JG G,ht,hy]⟩,by show((l.length:Int) - ((j:Int)+1)).toNat< ((l.length:Int) - j).toNat;omega⟩
 ·have e:j=l.length:=by simp only [JE]at β;omega
  subst e;rw [J3,he,J3]at ht;have :=W w' x
  rwa [KH ht]at this
def Ch (n:Nat):List Nat:=(List.range n).map λi=>i+1
theorem jA (n:Nat):(Ch n).length=n:=by simp [Ch]
theorem E8 {l:List Nat}{i:Nat}(h:i< l.length):(Ch i++l.drop i).set i (i+1)=Ch (i+1)++l.drop (i+1):=by
 rw [List.set_append_right _ _ (by rw [jA];exact JL _),jA,MY,Kx h,List.set_cons_zero];simp [Ch,LR]
theorem FU {e B:Nat}{w:World}{v:Value}{l:List Nat}(h:aD e B w v (l.map iv))(hl:l.length<=1000000000){R:Int->World->Prop}(hR:∀w',Kp w w' (λg=>v.ownBlock=some g)->aD e B w' v ((Ch l.length).map iv)->R (l.length+1:Nat) w'):
  Calls Tryz.prog 35 #[v,.int .i64 1] w (an [.i] R):=by
 refine qd v 1 w R ?_;obtain⟨a,c,Z⟩:=h.slice;rw [JY]at Z;refine⟨λk i w'=>∃j:Nat,i=j/\k=j+1/\j<=l.length/\Kp w w' (λg=>v.ownBlock=some g)/\aD e B w' v ((Ch j++l.drop j).map iv),λ _ i _=>(l.length - i).toNat,⟨0,rfl,rfl,Ks _,Kp.ah (Ex.refl w) _,by simpa [Ch]using h⟩,λk i w' hI=>?_⟩;obtain⟨j,rfl,rfl,hj,kp,G⟩:=hI;refine⟨a,_,c,Z,λJ=>?_,λV=>?_⟩
 ·have W:j< l.length:=by simp only [JD]at J;omega
  have hlen:(Ch j++l.drop j).length=l.length:=by rw [JJ,jA,K1];omega
  obtain⟨g,cap,z,α,hc⟩:=G.num (j:=j) (by omega);have H:v.ownBlock=some g:=nK z;have ej:0+(j:Int).toNat* 1=j:=by omega
  rw [ej]at hc;refine⟨g,0,_,_,z,by omega,by omega,?_⟩;dsimp only;rw [ej];refine⟨⟨⟨_,hc⟩,G.fr H j⟩,λw3 I=>⟨by unfold aj;omega,by unfold aj;omega,⟨j+1,by omega,by omega,by omega,?_,?_⟩,by show((l.length:Int) - ((j:Int)+1)).toNat< ((l.length:Int) - j).toNat;omega⟩⟩
  ·rw [I];exact kp.set H _
  ·rw [z]at G|-;have :=G.set (x:= .int .i64 ((j:Int)+1)) I (by rw [JY];omega);rw [<-E8 W,MJ];exact this
 ·have e:j=l.length:=by simp only [JE]at V;omega
  subst e;rw [Ld,Kb]at G;exact hR w' kp G
theorem Ag {e B:Nat}{w:World}{v:Value}{n:Nat}(h:aD e B w v ((Ch n).map iv))(hl:n<=1000000000){R:Int->World->Prop}(W:R (n+1:Nat) w):
  Calls Tryz.prog 36 #[v,.int .i64 1] w (an [.i] R):=by
 refine qg v 1 w R ?_;obtain⟨a,c,J⟩:=h.slice;rw [JY,jA]at J;refine⟨λk i w'=>w'=w/\∃j:Nat,i=j/\k=j+1/\j<=n,λ _ i _=>(n - i).toNat,⟨rfl,0,rfl,rfl,Ks _⟩,λk i w' Z=>?_⟩;obtain⟨rfl,j,rfl,rfl,hj⟩:=Z;refine⟨a,_,c,J,λH=>?_,λI=>?_⟩
 ·have z:j< n:=by simp only [JD]at H;omega
  obtain⟨g,cap,G,α,V⟩:=h.num (j:=j) (by rw [jA];exact z);have em:(Ch n)[j]'(by rw [jA];exact z)=j+1:=by simp [Ch]
  rw [em]at V;rw [jA]at G;refine⟨g,0,_,_,G,by omega,by omega,_,V,λhn=>by simp at hn,λ _=>⟨by unfold aj;omega,by unfold aj;omega,⟨rfl,j+1,by omega,by omega,by omega⟩,by show((n:Int) - ((j:Int)+1)).toNat< ((n:Int) - j).toNat;omega⟩⟩
 ·have e:j=n:=by simp only [JE]at I;omega
  subst e;exact W
end Go.Proofs.YtdecokaadekjnaaGreat
