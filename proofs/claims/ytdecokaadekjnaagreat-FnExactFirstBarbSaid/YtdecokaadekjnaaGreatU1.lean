/- Part 1 of a proof of what the last text states; no condition. -/
import Derived.WalkKit
import Derived.KernelRfl
import Derived.MapKept
import Derived.Laws.IdiomCopy
import Derived.Lib.ConvBytes
import Derived.Laws.BytesString
import Derived.Laws.MakeOwn
import Derived.OrdersHeld
import Derived.Test.YtdecokaadekjnaaGreatProg
import Derived.Below
import Derived.Deep.Onto
import Derived.Sort.Walk0
import Derived.Shelf.Small.Strs
import Derived.Sort.OwnSorted
import Derived.Shelf.Sort.Plain
import Derived.Shelf.Slices.In.SortNone
import Derived.Test.YtdecokaadekjnaaGreatRows
import Derived.ProofKit
import Derived.OpenShut
import Derived.ShutString
import Derived.ChangeOld
namespace Go.Proofs.YtdecokaadekjnaaGreat
open Go Go.RowKit
theorem J0:type_of% @List.length_cons:=@List.length_cons
theorem J1:type_of% @World.cell?_of_block:=@World.cell?_of_block
theorem J2:type_of% @List.getElem?_eq_getElem:=@List.getElem?_eq_getElem
theorem J3:type_of% @Bool.and_eq_true:=@Bool.and_eq_true
theorem J4:type_of% @decide_eq_true_eq:=@decide_eq_true_eq
theorem J6:type_of% @decide_eq_false_iff_not:=@decide_eq_false_iff_not
theorem J7:type_of% @World.cell?_setCell_other:=@World.cell?_setCell_other
theorem J8:type_of% @List.take_succ_eq_append_getElem:=@List.take_succ_eq_append_getElem
theorem J9:type_of% @Int.toNat_natCast:=@Int.toNat_natCast
theorem J':type_of% @List.length_append:=@List.length_append
theorem Ka:type_of% @Result.andThen_ok:=@Result.andThen_ok
theorem Kb:type_of% @Nat.le_refl:=@Nat.le_refl
theorem Kc:type_of% @List.forall_mem_cons:=@List.forall_mem_cons
theorem Ke:type_of% @List.mem_append:=@List.mem_append
theorem Kf:type_of% @List.mem_singleton:=@List.mem_singleton
theorem Kg:type_of% @List.getElem_mem:=@List.getElem_mem
theorem Kh:type_of% @List.length_nil:=@List.length_nil
theorem Ki:type_of% @List.mem_cons_of_mem:=@List.mem_cons_of_mem
theorem Kj:type_of% @World.cell?_setCell_same:=@World.cell?_setCell_same
theorem Kk:type_of% @Sem.run_bind:=@Sem.run_bind
theorem Kl:type_of% @UInt8.le_iff_toNat_le:=@UInt8.le_iff_toNat_le
theorem Ko:type_of% @if_neg:=@if_neg
theorem Ks:type_of% @List.mem_cons:=@List.mem_cons
theorem Kt:type_of% @World.frozen?_setCell:=@World.frozen?_setCell
theorem Ku:type_of% @Sem.run_pure:=@Sem.run_pure
theorem Kv:type_of% @of_decide_eq_true:=@of_decide_eq_true
theorem Kw:type_of% @of_decide_eq_false:=@of_decide_eq_false
theorem Kx:type_of% @Nat.lt_of_lt_of_le:=@Nat.lt_of_lt_of_le
theorem Ky:type_of% @UInt8.toNat_inj:=@UInt8.toNat_inj
theorem Kz:type_of% @List.length_map:=@List.length_map
theorem KA:type_of% @List.take_length:=@List.take_length
theorem KB:type_of% @List.mem_append_right:=@List.mem_append_right
theorem KC:type_of% @World.frozen?_of_block:=@World.frozen?_of_block
theorem KD:type_of% @List.eq_nil_of_length_eq_zero:=@List.eq_nil_of_length_eq_zero
theorem KE:type_of% @List.map_cons:=@List.map_cons
theorem KF:type_of% @Nat.zero_add:=@Nat.zero_add
theorem KG:type_of% @if_pos:=@if_pos
theorem KH:type_of% @List.mem_append_left:=@List.mem_append_left
theorem KI:type_of% @UInt8.lt_iff_toNat_lt:=@UInt8.lt_iff_toNat_lt
theorem KJ:type_of% @List.append_nil:=@List.append_nil
theorem KK:type_of% @Nat.mul_one:=@Nat.mul_one
theorem KL:type_of% @List.nodup_append:=@List.nodup_append
theorem KM:type_of% @World.size_setCell:=@World.size_setCell
theorem KN:type_of% @List.append_assoc:=@List.append_assoc
theorem KO:type_of% @Array.getElem?_eq_some_iff:=@Array.getElem?_eq_some_iff
theorem KP:type_of% @List.length_take:=@List.length_take
theorem KQ:type_of% @List.mem_map:=@List.mem_map
theorem KR:type_of% @List.mem_cons_self:=@List.mem_cons_self
theorem KS:type_of% @Option.some.inj:=@Option.some.inj
theorem KT:type_of% @Nat.zero_le:=@Nat.zero_le
theorem KU:type_of% @List.mem_flatMap:=@List.mem_flatMap
theorem KV:type_of% @List.count_append:=@List.count_append
theorem KW:type_of% @List.cons.injEq:=@List.cons.injEq
theorem KX:type_of% @List.getElem?_eq_some_iff:=@List.getElem?_eq_some_iff
theorem KY:type_of% @List.mem_iff_getElem:=@List.mem_iff_getElem
theorem KZ:type_of% @List.nil_append:=@List.nil_append
theorem K0:type_of% @List.drop_eq_getElem_cons:=@List.drop_eq_getElem_cons
theorem K1:type_of% @Classical.byContradiction:=@Classical.byContradiction
theorem K2:type_of% @UInt8.toNat_ofNat':=@UInt8.toNat_ofNat'
theorem K3:type_of% @List.map_append:=@List.map_append
theorem K4:type_of% @List.cons_append:=@List.cons_append
theorem K5:type_of% @Nat.le_trans:=@Nat.le_trans
theorem K6:type_of% @Bool.eq_iff_iff:=@Bool.eq_iff_iff
theorem K7:type_of% @List.nodup_cons:=@List.nodup_cons
theorem K8:type_of% @List.cons.inj:=@List.cons.inj
theorem K9:type_of% @List.Perm.refl:=@List.Perm.refl
theorem La:type_of% @List.Sublist.refl:=@List.Sublist.refl
theorem Lb:type_of% @congrArg:=@congrArg
theorem Lc:type_of% @decide_eq_true:=@decide_eq_true
theorem Ld:type_of% @List.sum_cons:=@List.sum_cons
theorem Le:type_of% @Array.toList_map:=@Array.toList_map
theorem Lf:type_of% @List.flatMap_append:=@List.flatMap_append
theorem Lg:type_of% @List.all_cons:=@List.all_cons
theorem Lh:type_of% @List.getElem?_cons_zero:=@List.getElem?_cons_zero
theorem Li:type_of% @List.take_append_drop:=@List.take_append_drop
theorem Lj:type_of% @decide_eq_false:=@decide_eq_false
theorem Lk:type_of% @List.map_congr_left:=@List.map_congr_left
theorem Ll:type_of% @Array.toList_inj:=@Array.toList_inj
theorem Lm:type_of% @Bool.or_eq_true:=@Bool.or_eq_true
theorem Ln:type_of% @Value.int.injEq:=@Value.int.injEq
theorem Lr:type_of% @Below.frozen:=@Below.frozen
theorem Ls:type_of% @Bool.or_eq_false_iff:=@Bool.or_eq_false_iff
theorem Lu:type_of% @Bool.and_self:=@Bool.and_self
theorem Lw:type_of% @Option.some.injEq:=@Option.some.injEq
theorem Ly:type_of% @List.flatMap_cons:=@List.flatMap_cons
theorem Lz:type_of% @List.mem_range:=@List.mem_range
theorem LA:type_of% @List.sublist_append_right:=@List.sublist_append_right
theorem LB:type_of% @List.nodup_nil:=@List.nodup_nil
theorem LC:type_of% @Bool.or_assoc:=@Bool.or_assoc
theorem LD:type_of% @List.getElem?_take_of_lt:=@List.getElem?_take_of_lt
theorem LF:type_of% @Nat.lt_or_ge:=@Nat.lt_or_ge
theorem LG:type_of% @List.mem_map_of_mem:=@List.mem_map_of_mem
theorem LH:type_of% @List.length_drop:=@List.length_drop
theorem LI:type_of% @List.drop_eq_nil_of_le:=@List.drop_eq_nil_of_le
theorem LJ:type_of% @Below.trans:=@Below.trans
theorem LK:type_of% @List.Sublist.append:=@List.Sublist.append
theorem LL:type_of% @Array.getElem?_toList:=@Array.getElem?_toList
theorem LM:type_of% @List.map_map:=@List.map_map
theorem LN:type_of% @if_true:=@if_true
theorem LO:type_of% @List.filter_append:=@List.filter_append
theorem LP:type_of% @List.drop_zero:=@List.drop_zero
theorem LQ:type_of% @Eq.trans:=@Eq.trans
theorem LR:type_of% @Option.map_some:=@Option.map_some
theorem LU:type_of% @Bool.true_and:=@Bool.true_and
theorem LV:type_of% @List.length_set:=@List.length_set
theorem LW:type_of% @List.all_eq_true:=@List.all_eq_true
theorem LX:type_of% @MapKept.run_getObj_map:=@MapKept.run_getObj_map
theorem LY:type_of% @List.not_mem_nil:=@List.not_mem_nil
theorem LZ:type_of% @List.mem_of_find?_eq_some:=@List.mem_of_find?_eq_some
theorem L0:type_of% @Bool.not_eq_true':=@Bool.not_eq_true'
theorem L3:type_of% @Array.getElem?_modify:=@Array.getElem?_modify
theorem L4:type_of% @List.Pairwise.sublist:=@List.Pairwise.sublist
theorem L5:type_of% @List.mem_filter:=@List.mem_filter
theorem L6:type_of% @List.map_nil:=@List.map_nil
theorem L7:type_of% @Bool.false_eq_true:=@Bool.false_eq_true
theorem L8:type_of% @Value.string.injEq:=@Value.string.injEq
theorem L9:type_of% @List.mem_of_getElem?:=@List.mem_of_getElem?
theorem Ma:type_of% @List.any_eq_true:=@List.any_eq_true
theorem Mb:type_of% @List.drop_length:=@List.drop_length
theorem Mc:type_of% @true_and:=@true_and
theorem Md:type_of% @List.getElem?_map:=@List.getElem?_map
theorem Me:type_of% @List.perm_append_comm:=@List.perm_append_comm
theorem Mf:type_of% @List.length_filter_le:=@List.length_filter_le
theorem Mg:type_of% @List.eq_nil_iff_forall_not_mem:=@List.eq_nil_iff_forall_not_mem
theorem Mh:type_of% @List.pairwise_cons:=@List.pairwise_cons
theorem Mi:type_of% @decide_eq_decide:=@decide_eq_decide
theorem Mj:type_of% @List.sublist_append_left:=@List.sublist_append_left
theorem Ml:type_of% @Std.Legacy.Range.forIn_eq_forIn_range':=@Std.Legacy.Range.forIn_eq_forIn_range'
theorem Mm:type_of% @List.nodup_iff_count:=@List.nodup_iff_count
theorem Mn:type_of% @List.length_range:=@List.length_range
theorem Mo:type_of% @and_assoc:=@and_assoc
theorem Mp:type_of% @List.filter_congr:=@List.filter_congr
theorem Mq:type_of% @or_false:=@or_false
theorem Mr:type_of% @MapKept.run_setObj_map:=@MapKept.run_setObj_map
theorem Ms:type_of% @Bool.or_false:=@Bool.or_false
theorem Mt:type_of% @Nat.add_assoc:=@Nat.add_assoc
theorem Mu:type_of% @Bool.and_true:=@Bool.and_true
theorem Mv:type_of% @run_underlying:=@run_underlying
theorem Mw:type_of% @Nat.eq_zero_or_pos:=@Nat.eq_zero_or_pos
theorem Mx:type_of% @List.getD_eq_getElem?_getD:=@List.getD_eq_getElem?_getD
theorem My:type_of% @List.getElem?_take:=@List.getElem?_take
theorem Mz:type_of% @Below.heap_setCell:=@Below.heap_setCell
theorem MA:type_of% @List.getLast?_eq_getElem?:=@List.getLast?_eq_getElem?
theorem MB:type_of% @UInt8.toNat_add:=@UInt8.toNat_add
theorem MC:type_of% @List.all_append:=@List.all_append
theorem MD:type_of% @Nat.min_eq_left:=@Nat.min_eq_left
theorem ME:type_of% @if_false:=@if_false
theorem MF:type_of% @Nat.add_zero:=@Nat.add_zero
theorem MG:type_of% @and_true:=@and_true
theorem MH:type_of% @Bool.false_or:=@Bool.false_or
theorem MI:type_of% @List.getElem_append_left:=@List.getElem_append_left
theorem MJ:type_of% @List.length_pos_iff:=@List.length_pos_iff
theorem ML:type_of% @List.map_eq_nil_iff:=@List.map_eq_nil_iff
theorem MM:type_of% @List.ext_getElem:=@List.ext_getElem
theorem MN:type_of% @Option.bind_eq_some_iff:=@Option.bind_eq_some_iff
theorem MO:type_of% @List.perm_middle:=@List.perm_middle
theorem MP:type_of% @World.ownsRow.lt:=@World.ownsRow.lt
theorem MQ:type_of% @Value.string.inj:=@Value.string.inj
theorem MR:type_of% @List.countP_cons_of_pos:=@List.countP_cons_of_pos
theorem MS:type_of% @List.take_of_length_le:=@List.take_of_length_le
theorem MT:type_of% @List.all_nil:=@List.all_nil
theorem MU:type_of% @or_assoc:=@or_assoc
theorem MV:type_of% @UInt8.lt_irrefl:=@UInt8.lt_irrefl
theorem MW:type_of% @List.range_succ:=@List.range_succ
theorem MX:type_of% @List.getElem?_toArray:=@List.getElem?_toArray
theorem MY:type_of% @Array.mem_of_getElem?:=@Array.mem_of_getElem?
theorem MZ:type_of% @not_true_eq_false:=@not_true_eq_false
theorem M0:type_of% @Array.toList_push:=@Array.toList_push
theorem M5:type_of% @Iff.rfl:=@Iff.rfl
theorem M6:type_of% @not_false_eq_true:=@not_false_eq_true
theorem M7:type_of% @List.drop_drop:=@List.drop_drop
theorem M8:type_of% @List.drop_left:=@List.drop_left
theorem M9:type_of% @Below.mono:=@Below.mono
theorem Na:type_of% @List.pairwise_append:=@List.pairwise_append
theorem Nb:type_of% @Nat.mul_le_mul:=@Nat.mul_le_mul
theorem Nc:type_of% @UInt32.toNat_inj:=@UInt32.toNat_inj
theorem Nf:type_of% @List.getElem_map:=@List.getElem_map
theorem Ng:type_of% @Nat.mod_eq_of_lt:=@Nat.mod_eq_of_lt
theorem Nh:type_of% @MapKept.heap_set:=@MapKept.heap_set
theorem Ni:type_of% @Ne.symm:=@Ne.symm
theorem Nj:type_of% @List.filter_cons:=@List.filter_cons
theorem Nk:type_of% @List.isEmpty_iff:=@List.isEmpty_iff
theorem Nl:type_of% @Nat.add_comm:=@Nat.add_comm
theorem Nn:type_of% @List.flatMap_map:=@List.flatMap_map
theorem No:type_of% @List.prefix_refl:=@List.prefix_refl
theorem Np:type_of% @UInt32.toNat_ofNat':=@UInt32.toNat_ofNat'
theorem Nq:type_of% @List.take_set_of_le:=@List.take_set_of_le
theorem Ns:type_of% @List.filter_eq_self:=@List.filter_eq_self
theorem Nt:type_of% @UInt32.toBitVec_inj:=@UInt32.toBitVec_inj
theorem Nv:type_of% @List.find?_some:=@List.find?_some
theorem Nw:type_of% @List.sum_append:=@List.sum_append
theorem Ny:type_of% @List.find?_eq_none:=@List.find?_eq_none
theorem Nz:type_of% @World.ownsRow.mono:=@World.ownsRow.mono
theorem NA:type_of% @List.perm_cons:=@List.perm_cons
theorem NB:type_of% @bytesLess_eq:=@bytesLess_eq
theorem NC:type_of% @Bool.false_and:=@Bool.false_and
theorem ND:type_of% @Bool.and_assoc:=@Bool.and_assoc
theorem NF:type_of% @List.count_nil:=@List.count_nil
theorem NG:type_of% @beq_iff_eq:=@beq_iff_eq
theorem NH:type_of% @Below.refl:=@Below.refl
theorem NI:type_of% @not_or:=@not_or
theorem NJ:type_of% @false_or:=@false_or
end Go.Proofs.YtdecokaadekjnaaGreat
namespace Go.Proofs.YtdecokaadekjnaaGreat
open Go Go.RowKit
abbrev ay:=List UInt8
def ab (l:ay):ByteArray:=⟨l.toArray⟩
def bt (l:List UInt8)(i:Nat):UInt8:=l.getD i 0
inductive SV where
 | v (x:Value) | i (n:Int) | c (x:UInt8) | w (x:UInt32) | s (l:ay) | b (x:Bool) | tt | ff | un
 | a (blk off:Nat) | r (n:Int)
 | tup (xs:List SV)
 | ag (xs:List SV)
 | agl (cs:List Value)
mutual
def SV.val:SV->Value
 | .v x=>x | .i n=> .int .i64 n | .c x=> .int .u8 x.toNat | .w x=> .int .u32 x.toNat | .s l=> .string (ab l) | .b x=> .bool x
 | .tt=> .bool true | .ff=> .bool false | .un=>undef | .a blk off=> .pointer (some ⟨blk,off,none⟩)
 | .r n=> .int .i32 n
 | .tup xs=> .tuple (SV.vals xs).toArray
 | .ag xs=> .agg (SV.vals xs).toArray
 | .agl cs=> .agg cs.toArray
def SV.vals:List SV->List Value
 | []=>[]
 | x::xs=>x.val::SV.vals xs
end
inductive Kd where
 | i | c | w | s | b | v
 deriving DecidableEq
abbrev Kd.T:Kd->Type
 | .i=>Int | .c=>UInt8 | .w=>UInt32 | .s=>ay | .b=>Bool | .v=>Value
def Kd.sv:(k:Kd)->k.T->SV
 | .i=>SV.i | .c=>SV.c | .w=>SV.w | .s=>SV.s | .b=>SV.b | .v=>SV.v
def Kd.un:(k:Kd)->SV->Option k.T
 | .i,.i n=>some n
 | .c,.c x=>some x
 | .w,.w x=>some x
 | .s,.s l=>some l
 | .b,.b x=>some x
 | .b,.tt=>some true
 | .b,.ff=>some false
 | .v,.v x=>some x
 | .v,.a blk off=>some (.pointer (some ⟨blk,off,none⟩))
 | .v,.ag xs=>some (.agg (SV.vals xs).toArray)
 | .v,.agl cs=>some (.agg cs.toArray)
 | _,_=>none
theorem Kd.zL {k:Kd}{x:SV}{t:k.T}(h:k.un x=some t):x.val=(k.sv t).val:=by
 cases k<;>cases x<;>simp [Kd.un]at h<;>(try subst h)<;>rfl
abbrev Cur:List Kd->Type
 | []=>World->Prop
 | k::L=>k.T->Cur L
def Cur.app:(L:List Kd)->Cur L->List SV->World->Prop
 | [],R,[],w=>R w
 | k::L,R,x::xs,w=>match k.un x with
  | some t=>Cur.app L (R t) xs w
  | none=>False
 | _,_,_,_=>False
def Cur.mk:(L:List Kd)->(List SV->World->Prop)->Cur L
 | [],K=>K []
 | k::L,K=>λt=>Cur.mk L (λxs=>K (k.sv t::xs))
def Ch:(L:List Kd)->(List SV->Prop)->Prop
 | [],K=>K []
 | k::L,K=>∀t:k.T,Ch L (λxs=>K (k.sv t::xs))
def valOf:List SV->Value
 | [x]=>x.val
 | xs=> .tuple (SV.vals xs).toArray
def lP:(L:List Kd)->Cur L->List SV->Ending->World->Prop
 | [],R,acc,e,w=>e= .returned (valOf acc)/\R w
 | k::L,R,acc,e,w=>∃t:k.T,lP L (R t) (acc++[k.sv t]) e w
def ax (L:List Kd)(R:Cur L):Ending->World->Prop:=lP L R []
theorem lP.get:∀(L:List Kd) (R:Cur L) (acc:List SV) (e:Ending) (w:World),lP L R acc e w->
  ∃xs:List SV,e= .returned (valOf (acc++xs))/\Cur.app L R xs w/\xs.length=L.length
 | [],R,acc,e,w,h=>⟨[],by simpa using h.1,h.2,rfl⟩
 | k::L,R,acc,e,w,⟨t,h⟩=>by
  obtain⟨xs,z,h2,G⟩:=lP.get L (R t) _ e w h;refine⟨k.sv t::xs,by simpa using z,?_,by simp [G]⟩;have:k.un (k.sv t)=some t:=by cases k<;>rfl
  simp only [Cur.app,this];exact h2
theorem Cur.zg:∀(L:List Kd) (K:List SV->World->Prop) (xs:List SV) (w:World),Cur.app L (Cur.mk L K) xs w->
  ∃z:List SV,SV.vals z=SV.vals xs/\K z w
 | [],K,[],w,h=>⟨[],rfl,h⟩
 | [],K,_::_,w,h=>h.elim
 | k::L,K,[],w,h=>h.elim
 | k::L,K,x::xs,w,h=>by
  simp only [Cur.app]at h;split at h
  ·rename_i t G;obtain⟨z,H,h2⟩:=Cur.zg L _ xs w h;exact⟨k.sv t::z,by simp [SV.vals,H,Kd.zL G],h2⟩
  ·exact h.elim
theorem ax.mono {L:List Kd}{R z:Cur L}(h:∀xs w,Cur.app L R xs w->Cur.app L z xs w){e:Ending}{w:World}(hr:ax L R e w):ax L z e w:=by
 unfold ax at*;revert h hr;generalize ([]:List SV)=acc
 induction L generalizing acc with
 | nil=>exact λh hr=>⟨hr.1,h [] w hr.2⟩
 | cons k L H=>
  rintro h ⟨t,I⟩
  refine⟨t,H _ (λxs w J=>?_) I⟩;have G:k.un (k.sv t)=some t:=by cases k<;>rfl
  have :=h (k.sv t::xs) w (by simp only [Cur.app,G];exact J);simpa only [Cur.app,G]using this
abbrev Env:=List (Nat×SV)
def look:Env->Nat->Option SV
 | [],_=>none
 | (t,x)::e,n=>if t==n then some x else look e n
def aD (N:Nat)(e:Env)(a:Act):Prop:=a.tmps.size=N/\∀t x,look e t=some x->a.tmps.getD t undef=x.val
theorem aD.put {N:Nat}{e:Env}{a:Act}(h:aD N e a){d:Nat}(hd:d< N){x:SV}{v:Value}(I:v=x.val):aD N ((d,x)::e) (a.put (some d) v):=by
 subst I;refine⟨by simp [Act.put,h.1],λt y G=>?_⟩;simp only [look]at G;split at G
 ·rename_i heq;have:d=t:=by simpa using heq
  subst this;cases G;simp [Act.put,Array.getD,h.1,hd]
 ·rename_i H;have z:d≠t:=by simpa using H
  rw [<-h.2 t y G];show(a.tmps.setIfInBounds d x.val).getD t undef=_;simp only [Array.getD,Array.size_setIfInBounds];split
  ·exact Array.getElem_setIfInBounds_ne _ z
  ·rfl
def ev (e:Env):Operand->Option SV
 | .tmp t=>look e t
 | .const (.int .i64 n)=>some (.i n)
 | .const (.int .u8 n)=>if 0<=n/\n< 256 then some (.c (UInt8.ofNat n.toNat))else some (.v (.int .u8 n))
 | .const (.int .u32 n)=>if 0<=n/\n< 4294967296 then some (.w (UInt32.ofNat n.toNat))else some (.v (.int .u32 n))
 | .const (.string s)=>some (.s s.data.toList)
 | .const (.bool true)=>some .tt
 | .const (.bool false)=>some .ff
 | .const v=>some (.v v)
 | .global g=>some (.a g 0)
 | .func f=>some (.v (.func (.func f) #[] #[]))
theorem aE {N:Nat}{e:Env}{a:Act}(h:aD N e a){x:Operand}{y:SV}(z:ev e x=some y):a.eval x=y.val:=by
 cases x with
 | tmp t=>exact h.2 t y z
 | global g=>simp [ev]at z;subst z;rfl
 | func f=>simp [ev]at z;subst z;rfl
 | const v=>
  unfold ev at z;split at z<;>(try (rename_i heq;cases heq))
  all_goals first
   | (cases z;rfl)
   | skip
  ·split at z<;>cases z
   ·rename_i n G;show Value.int .u8 n=Value.int .u8 _
    congr 1
    simp only [K2,Nat.reducePow];omega
   ·rfl
  ·split at z<;>cases z
   ·rename_i n G;show Value.int .u32 n=Value.int .u32 _
    congr 1
    simp only [Np,Nat.reducePow];omega
   ·rfl
structure gX where
 P:Program
 und:Nat->Option TypeDesc
 und_ok:∀t d,und t=some d->P.underlying t=some d
 inf:Nat->Option (Value×Nat×Nat)
 inf_ok:∀t z s b,inf t=some (z,s,b)->∃i,P.info? t=some i/\i.zero=some z/\i.size=s/\i.bytes=b
 fn:Nat->Bool
 fn_ok:∀f,fn f=true->∃g,P.funcs[f]?=some g/\g.body.isNone=false/\(g.name== "runtime.NumGoroutine")=false
 mixed:P.follows .mixedOrders=true
def yh (d:Option TypeDesc):Kd:=match d with
 | some (.int .i64)=> .i | some (.int .u8)=> .c | some (.int .u32)=> .w | some .string=> .s | some .bool=> .b | _=> .v
def AY (T:gX)(t:Nat):List Kd:=match T.und t with
 | some (.tuple ts)=>ts.toList.map λu=>yh (T.und u)
 | d=>[yh d]
def aj (n:Int):Prop:= -9223372036854775808<=n/\n<=9223372036854775807
theorem ke {n:Int}(h:aj n):IntKind.i64.wrap n=n:=by
 exact IntWalk.i64_in n h
def nE (x:UInt32)(n:Nat):UInt32:=UInt32.ofNat (x.toNat* 2^(min n 32))
def binT (op:BinOp)(x y:SV):Option SV:=match op,x,y with
 | .eql,.i a,.i b=>some (.b (decide (a=b)))
 | .neq,.i a,.i b=>some (.b (!decide (a=b)))
 | .lss,.i a,.i b=>some (.b (decide (a< b)))
 | .leq,.i a,.i b=>some (.b (decide (a<=b)))
 | .gtr,.i a,.i b=>some (.b (decide (b< a)))
 | .geq,.i a,.i b=>some (.b (decide (b<=a)))
 | .eql,.c a,.c b=>some (.b (decide (a=b)))
 | .neq,.c a,.c b=>some (.b (!decide (a=b)))
 | .lss,.c a,.c b=>some (.b (decide (a< b)))
 | .leq,.c a,.c b=>some (.b (decide (a<=b)))
 | .gtr,.c a,.c b=>some (.b (decide (b< a)))
 | .geq,.c a,.c b=>some (.b (decide (b<=a)))
 | .add,.c a,.c b=>some (.c (a+b))
 | .sub,.c a,.c b=>some (.c (a - b))
 | .eql,.s a,.s b=>some (.b (decide (a=b)))
 | .neq,.s a,.s b=>some (.b (!decide (a=b)))
 | .lss,.s a,.s b=>some (.b (Op.bytesLess a b))
 | .leq,.s a,.s b=>some (.b (Op.bytesLess a b||decide (a=b)))
 | .gtr,.s a,.s b=>some (.b (!(Op.bytesLess a b||decide (a=b))))
 | .geq,.s a,.s b=>some (.b (!Op.bytesLess a b))
 | .and,.w a,.w b=>some (.w (a &&& b))
 | .or,.w a,.w b=>some (.w (a ||| b))
 | .xor,.w a,.w b=>some (.w (a^^^b))
 | .andNot,.w a,.w b=>some (.w (a &&& ~~~b))
 | .eql,.w a,.w b=>some (.b (decide (a=b)))
 | .neq,.w a,.w b=>some (.b (!decide (a=b)))
 | .shl,.w a,.c n=>some (.w (nE a n.toNat))
 | _,_,_=>none
def binP (op:BinOp)(x y:SV):Option (Prop×SV):=match op,x,y with
 | .add,.i a,.i b=>some (aj (a+b),.i (a+b))
 | .sub,.i a,.i b=>some (aj (a - b),.i (a - b))
 | .mul,.i a,.i b=>some (aj (a* b),.i (a* b))
 | .quo,.i a,.i b=>some (0<=a/\0< b/\aj a,.i (a / b))
 | .rem,.i a,.i b=>some (0<=a/\0< b,.i (a % b))
 | .add,.s a,.s b=>some (a.length+b.length<=4611686018427387904,.s (a++b))
 | .shl,.w a,.i n=>some (0<=n,.w (nE a n.toNat))
 | _,_,_=>none
theorem fK (l:ay):(ab l).size=l.length:=by simp [ab,ByteArray.size]
theorem nY (l:ay):(ab l).toList=l:=by
 have:∀n i acc,l.length - i=n->ByteArray.toList.loop (ab l) i acc=acc.reverse++l.drop i:=by
  intro n
  induction n with
  | zero=>
   intro i acc h;unfold ByteArray.toList.loop;rw [Ko (by rw [fK];omega),LI (by omega)];simp
  | succ n G=>
   intro i acc h;have z:i< l.length:=by omega
   unfold ByteArray.toList.loop;rw [KG (by rw [fK];exact z),G _ _ (by omega),K0 z];have:(ab l).get! i=l[i]:=by simp [ab,ByteArray.get!,z]
   simp [this]
 simpa [ByteArray.toList]using this _ 0 [] rfl
theorem zX (a b:ay):ab a++ab b=ab (a++b):=by
 apply ByteArray.ext;simp [ab]
theorem eg {a b:ay}(h:ab a=ab b):a=b:=by simpa [ab]using h
theorem xm (l:ay)(i j:Nat):(ab l).extract i j=ab ((l.take j).drop i):=by
 apply ByteArray.ext;simp [ab,ByteArray.data_extract,List.drop_take]
theorem HZ (s:ByteArray):s=ab s.data.toList:=by cases s;simp [ab]
theorem jT {α:Type}[BEq α][LawfulBEq α][DecidableEq α](a b:α):(a==b)=decide (a=b):=by
 rw [K6];simp
theorem Jw (a b:UInt8):((a.toNat:Int)==(b.toNat:Int))=decide (a=b):=by
 rw [K6];simp only [NG,J4];constructor
 ·intro h;exact Ky.1 (by omega)
 ·rintro rfl;rfl
theorem Gv (a b:UInt32):((a.toNat:Int)==(b.toNat:Int))=decide (a=b):=by
 rw [K6];simp only [NG,J4];constructor
 ·intro h;exact Nc.1 (by omega)
 ·rintro rfl;rfl
theorem wrap_u8 (n:Int):IntKind.u8.wrap n=n % 256:=by simp [IntKind.wrap,IntKind.bits,IntKind.signed]
theorem wrap_u32 (n:Int):IntKind.u32.wrap n=n % 4294967296:=by simp [IntKind.wrap,IntKind.bits,IntKind.signed]
theorem Hv (a:UInt32):BitVec.ofInt IntKind.u32.bits (a.toNat:Int)=a.toBitVec:=by
 apply BitVec.eq_of_toNat_eq;have :=a.toNat_lt;simp [IntKind.bits]
theorem eqGuard_plain {P:Program}{w:World}{op:BinOp}{t:TypeId}{x y:Operand}{a b:Value}
  (h:(match a,b with | .nilIface,.nilIface=>false | .agg _,.agg _=>false | _,_=>true)=true):(eqGuard op t x y a b).run P w= .ok () w:=by
 unfold eqGuard;cases a<;>cases b<;>simp at h<;>cases op<;>rfl
theorem Aj {T:gX}{o:Oper}{op:BinOp}{t H:Nat}{z G:Operand}{ρ:Operand->Value}{v:Value}{w:World}(I:o.op= .binOp op t z G H)
  (J:(eqGuard op t z G (ρ z) (ρ G)).run T.P w= .ok () w) (h:(binOp op t (ρ z) (ρ G)).run T.P w= .ok v w):(execOp ρ o).run T.P w= .ok (.value v) w:=by
 simp only [execOp,I,Kk,J,Ka,h,Ku]
theorem JT {a b:UInt8}:((a.toNat:Int)=b.toNat)↔a=b:=⟨λh=>Ky.1 (by omega),λh=>by rw [h]⟩
theorem JX {a b:UInt8}:((a.toNat:Int)< b.toNat)↔a< b:=by rw [KI];omega
theorem JO {a b:UInt8}:((a.toNat:Int)<=b.toNat)↔a<=b:=by rw [Kl];omega
theorem Jm {a b:UInt32}:((a.toNat:Int)=b.toNat)↔a=b:=⟨λh=>Nc.1 (by omega),λh=>by rw [h]⟩
theorem Hr (a b:UInt8):IntKind.u8.wrap ((a.toNat:Int)+b.toNat)=(a+b).toNat:=by rw [wrap_u8,MB];omega
theorem HM (a b:UInt8):IntKind.u8.wrap ((a.toNat:Int) - b.toNat)=(a - b).toNat:=by
 have :=a.toNat_lt;have :=b.toNat_lt;rw [wrap_u8,UInt8.toNat_sub];omega
theorem jm (x:UInt32):IntKind.u32.wrap (x.toBitVec.toNat:Int)=x.toNat:=by
 have :=x.toNat_lt;rw [wrap_u32];show((x.toNat:Int)) % 4294967296=_;omega
theorem Gm (a b:UInt32):IntKind.u32.wrap ((a.toBitVec &&& b.toBitVec).toNat:Int)=(a &&& b).toNat:=jm (a &&& b)
theorem HL (a b:UInt32):IntKind.u32.wrap ((a.toBitVec ||| b.toBitVec).toNat:Int)=(a ||| b).toNat:=jm (a ||| b)
theorem F0 (a b:UInt32):IntKind.u32.wrap ((a.toBitVec^^^b.toBitVec).toNat:Int)=(a^^^b).toNat:=jm (a^^^b)
theorem F7 (a b:UInt32):IntKind.u32.wrap ((a.toBitVec &&& ~~~b.toBitVec).toNat:Int)=(a &&& ~~~b).toNat:=jm (a &&& ~~~b)
theorem Bq (a:UInt32)(n:Nat):IntKind.u32.wrap ((a.toNat:Int)* 2^(min n IntKind.u32.bits))=(nE a n).toNat:=by
 rw [wrap_u32];rw [nE,Np];show((a.toNat:Int)* 2^(min n 32)) % 4294967296=((a.toNat* 2^min n 32 % 4294967296:Nat):Int);rw [Int.natCast_emod,Int.natCast_mul,Int.natCast_pow];rfl
theorem Ef {P:Program}{op:BinOp}{t:Nat}{x y z:SV}{w:World}(h:binT op x y=some z):(binOp op t x.val y.val).run P w= .ok z.val w:=by
 unfold binT at h;split at h<;>cases h<;>simp only [SV.val,binOp,ne_eq,MZ,ME,Op.intCmp,Op.intArith,Op.intBits,Op.stringOp,Op.shift,Ku,jT,bne,nY,Bool.not_or,
  JT,JX,JO,Jm,gt_iff_lt,ge_iff_le,Hr,HM,Hv]
 ·exact Lb (λv=>Result.ok (Value.int .u32 v) w) (Gm _ _)
 ·exact Lb (λv=>Result.ok (Value.int .u32 v) w) (HL _ _)
 ·exact Lb (λv=>Result.ok (Value.int .u32 v) w) (F0 _ _)
 ·exact Lb (λv=>Result.ok (Value.int .u32 v) w) (F7 _ _)
 rw [Ko (by omega),Ku,J9,Bq]
theorem EK {P:Program}{op:BinOp}{t:Nat}{x y z:SV}{p:Prop}{w:World}(h:binP op x y=some (p,z))(G:p):(binOp op t x.val y.val).run P w= .ok z.val w:=by
 unfold binP at h;split at h<;>cases h<;>simp only [SV.val,binOp,ne_eq,MZ,ME,Op.intArith,Op.intDiv,Op.stringOp,Op.shift,Ku]
 ·rw [ke G]
 ·rw [ke G]
 ·rw [ke G]
 ·obtain⟨H,I,h2⟩:=G;rw [Ko (by omega),Ku,Int.tdiv_eq_ediv_of_nonneg H,ke];rename_i a b;have J:0<=a / b:=Int.ediv_nonneg H (by omega);have h4:a / b<=a:=Int.ediv_le_self b H;unfold aj at*;omega
 ·rw [Ko (by omega),Ku,Int.tmod_eq_emod_of_nonneg G.1]
 ·rw [Ko,Ku,zX];rw [fK,fK];simp only [IntKind.max,IntKind.signed,IntKind.bits];simp;omega
 ·rw [Ko (by omega),Ku,Bq]
theorem vi (x:SV)(h:∀y,x≠ .v y)(z:∀y,x≠ .tup y)(h2:∀y,x≠ .ag y)(G:∀y,x≠ .agl y):∀b:Value,(match x.val,b with | .nilIface,.nilIface=>false | .agg _,.agg _=>false | _,_=>true)=true:=by
 intro b;cases x<;>simp only [SV.val]<;>first | rfl | (exact absurd rfl (h _)) | (exact absurd rfl (z _)) | (exact absurd rfl (h2 _)) | (exact absurd rfl (G _))
def packSV:List SV->SV
 | [x]=>x
 | xs=> .tup xs
def evs (e:Env):List Operand->Option (List SV)
 | []=>some []
 | x::xs=>match ev e x,evs e xs with
  | some y,some z=>some (y::z)
  | _,_=>none
def single (d:Option TypeDesc):Bool:=match d with
 | some (.struct _) | some (.array _ _) | some (.tuple _) | some (.named _ _) | none=>false
 | _=>true
def wD (d:Option TypeDesc):Bool:=match d with
 | some (.struct _)=>true
 | some (.array _ _)=>true
 | _=>false
def Jt (k:Kd)(K:SV->Prop):Prop:=∃t:k.T,K (k.sv t)
def asI:SV->Option Int
 | .i n=>some n
 | .c x=>some x.toNat
 | _=>none
def asB:SV->Option Bool
 | .b x=>some x
 | .tt=>some true
 | .ff=>some false
 | _=>none
def Ih:SV->Option SV
 | .b x=>some (.b (!x))
 | .tt=>some .ff
 | .ff=>some .tt
 | _=>none
def oneV:Value->Bool
 | .agg _=>false
 | .tuple _=>false
 | _=>true
def oneOk (z:SV)(p:Prop):Prop:=match z with
 | .v x=>oneV x=true/\p
 | .tup _=>False
 | .ag _=>False
 | .agl _=>False
 | .un=>False
 | _=>p
def cellsOf:SV->List Value
 | .ag xs=>SV.vals xs
 | .agl cs=>cs
 | y=>[y.val]
def Iv (z:SV)(p:Prop):Prop:=match z with
 | .v x=>oneV x=true/\p
 | .tup _=>False
 | .un=>False
 | _=>p
def iT:List (Nat×SV)->Prop->Prop
 | [],p=>p
 | x::xs,p=>Iv x.2 (iT xs p)
def svOf:Value->SV
 | .int .i64 n=> .i n
 | .int .u8 n=>if 0<=n/\n< 256 then .c (UInt8.ofNat n.toNat)else .v (.int .u8 n)
 | .int .u32 n=>if 0<=n/\n< 4294967296 then .w (UInt32.ofNat n.toNat)else .v (.int .u32 n)
 | .string s=> .s s.data.toList
 | .bool true=> .tt
 | .bool false=> .ff
 | x=> .v x
def CS (T:gX)(t:Nat):Option (List Kd):=match T.und t with
 | some (.struct fs)=>if fs.toList.all (λf=>single (T.und f.type))then some (fs.toList.map λf=>yh (T.und f.type))else none
 | some (.array 2 el)=>if single (T.und el)then some [yh (T.und el),yh (T.und el)]else none
 | _=>none
def jP (w:World)(b:Nat):Nat->List SV->Prop
 | _,[]=>True
 | off,x::xs=>w.cell? ⟨b,off,none⟩=some x.val/\jP w b (off+1) xs
def EX:(L:List Kd)->(List SV->Prop)->Prop
 | [],K=>K []
 | k::L,K=>∃t:k.T,EX L λxs=>K (k.sv t::xs)
def wV (w:World)(b off n:Nat)(cs:List Value)(k:SV->World->Prop):Prop:=
 (cs.length=n/\cs.all oneV=true/\∀j,j< n->(∃u,w.cell? ⟨b,off+j,none⟩=some u)/\w.frozen? ⟨b,off+j,none⟩=false)/\∀w',w'=World.setCells w b off cs->k .un w'
def vb:SV->Bool
 | .ag _=>false
 | .agl _=>false
 | .tup _=>false
 | _=>true
def buildAg (T:gX)(fs:Array Field):List SV->List (Nat×SV)->Option (List SV)
 | zs,[]=>some zs
 | zs,(i,x)::r=>match fs[i]? with
  | some fd=>(match T.inf fd.type,vb x with
   | some (_,1,_),true=>if fd.offset< zs.length then buildAg T fs (zs.set fd.offset x) r else none
   | _,_=>none)
  | none=>none
def buildRow (sz:Nat):List Value->List (Nat×SV)->Option (List Value)
 | zs,[]=>some zs
 | zs,(i,x)::r=>if(cellsOf x).length=sz/\i* sz+sz<=zs.length then buildRow sz (zs.take (i* sz)++cellsOf x++zs.drop (i* sz+sz)) r else none
def evp (e:Env):List (Nat×Operand)->Option (List (Nat×SV))
 | []=>some []
 | (i,x)::r=>match ev e x,evp e r with
  | some y,some z=>some ((i,y)::z)
  | _,_=>none
def dW (w:World)(x:Value)(m:Nat)(sz:Nat)(news:List Value):Prop:=
 news.length=m* sz/\news.all oneV=true/\((x= .slice none m 0/\m=0)\/∃b off c,x= .slice (some ⟨b,off,none⟩) m c/\∀j u,news[j]?=some u->w.cell? ⟨b,off+j,none⟩=some u)
def xD (el sz by_:Nat)(s x:Value)(w:World)(k:SV->World->Prop):Prop:=
 ∃(base n m:Nat) (xs news:List Value),w.ownsRow base el sz s n xs/\base<=w.heap.size/\dW w x m sz news/\(n+m<=maxLen/\(n+m)* by_<=140737488355328)/\
  ∀v w',w'.ownsRow base el sz v (n+m) (xs++news)->w.grownBy w' s.ownBlock->(∀b,v.ownBlock=some b->s.ownBlock=some b\/w.heap.size<=b)->k (.v v) w'
def dI (l:ay):List Value:=l.map λc=> .int .u8 c.toNat
def iC (w:World)(el b:Nat)(l:ay):Prop:=
 ∃cur z G,w.heap[b]?=some (.cells cur el (z,G))/\cur.toList.take l.length=dI l/\l.length<=cur.size/\cur.size<=z
theorem oneOk.get {z:SV}{p:Prop}(h:oneOk z p):oneV z.val=true/\p:=by
 cases z<;>simp only [oneOk]at h<;>first | exact⟨rfl,h⟩ | exact h
def vcSlice (T:gX)(el:Nat)(val:Value)(z G:Option Int)(k:SV->Prop):Prop:=
 match T.inf el with
 | none=>False
 | some (_,sz,_)=>∃a len cap,val= .slice a len cap/\0<=z.getD 0/\z.getD 0<=G.getD len/\G.getD len<=cap/\
   k (.v (.slice (if cap=(z.getD 0).toNat then a else a.map (·.add ((z.getD 0).toNat* sz))) ((G.getD len).toNat - (z.getD 0).toNat) (cap - (z.getD 0).toNat)))
def pj:List SV->List (Nat×SV)->Option (List SV)
 | zs,[]=>some zs
 | zs,(i,x)::r=>if vb x then(if i< zs.length then pj (zs.set i x) r else none)else none
def vcPure (T:gX)(e:Env)(o:Oper)(k:SV->Prop):Prop:=
 match o.op with
 | .move x=>match ev e x with | some y=>k y | none=>False
 | .assign x=>match ev e x with | some y=>k y | none=>False
 | .pick c a b=>match ev e c with
  | some .tt=>(match ev e a with | some y=>k y | none=>False)
  | some .ff=>(match ev e b with | some y=>k y | none=>False)
  | _=>False
 | .binOp op t x y _=>match ev e x,ev e y with
  | some a,some b=>(match binT op a b with
   | some z=>k z
   | none=>match binP op a b with
    | some (p,z)=>p/\k z
    | none=>match op,T.und t,asB a,asB b with
     | .eql,some .bool,some p,some q=>k (.b (p==q))
     | .neq,some .bool,some p,some q=>k (.b (!(p==q)))
     | .eql,some (.pointer _),none,none=>(match a,b with
      | .v p,.v (.pointer none)=>∃q,p= .pointer q/\k (.b q.isNone)
      | .a _ _,.v (.pointer none)=>k .ff
      | _,_=>False)
     | .neq,some (.pointer _),none,none=>(match a,b with
      | .v p,.v (.pointer none)=>∃q,p= .pointer q/\k (.b (!q.isNone))
      | .a _ _,.v (.pointer none)=>k .tt
      | _,_=>False)
     | .eql,some (.slice _),none,none=>(match a,b with
      | .v p,.v (.slice none 0 0)=>∃q n c,p= .slice q n c/\k (.b q.isNone)
      | _,_=>False)
     | .neq,some (.slice _),none,none=>(match a,b with
      | .v p,.v (.slice none 0 0)=>∃q n c,p= .slice q n c/\k (.b (!q.isNone))
      | _,_=>False)
     | .neq,some (.array 2 el),none,none=>(match T.und el,T.inf el,a,b with
      | some (.int .u32),some (_,1,_),.v p,.v q=>∃I J V W:UInt32,p= .agg #[.int .u32 I.toNat,.int .u32 J.toNat]/\q= .agg #[.int .u32 V.toNat,.int .u32 W.toNat]/\k (.b (!(decide (I=V)&&decide (J=W))))
      | _,_,_,_=>False)
     | _,_,_,_=>False)
  | _,_=>False
 | .unOp op _ x=>match op,ev e x with
  | .not,some y=>(match Ih y with | some z=>k z | none=>False)
  | .neg,some (.i n)=>aj (0 - n)/\k (.i (0 - n))
  | _,_=>False
 | .convert src dst x=>match T.und src,T.und dst,ev e x with
  | some (.int _),some (.int .i64),some (.c x)=>k (.i x.toNat)
  | some (.int _),some (.int .u8),some (.i n)=>k (.c (UInt8.ofNat (n % 256).toNat))
  | some (.int _),some (.int .i64),some (.i n)=>aj n/\k (.i n)
  | some (.int _),some (.int .i32),some (.c x)=>k (.r x.toNat)
  | some (.int _),some (.int .i32),some (.i n)=>(0<=n/\n< 2147483648)/\k (.r n)
  | some (.int _),some .string,some (.r n)=>(0<=n/\n< 128)/\k (.s [UInt8.ofNat n.toNat])
  | _,_,_=>False
 | .index t x H=>match T.und t,ev e x,ev e H with
  | some .string,some (.s l),some (.i n)=>(0<=n/\n< l.length)/\k (.c (bt l n.toNat))
  | _,_,_=>False
 | .slice t x Z hi none=>match T.und t,ev e x,Z.map (ev e),hi.map (ev e)with
  | some .string,some (.s l),none,none=>k (.s l)
  | some .string,some (.s l),some (some (.i a)),none=>(0<=a/\a<=l.length)/\k (.s (l.drop a.toNat))
  | some .string,some (.s l),none,some (some (.i b))=>(0<=b/\b<=l.length)/\k (.s (l.take b.toNat))
  | some .string,some (.s l),some (some (.i a)),some (some (.i b))=>(0<=a/\a<=b/\b<=l.length)/\k (.s ((l.take b.toNat).drop a.toNat))
  | some (.slice el),some (.v val),none,none=>vcSlice T el val none none k
  | some (.slice el),some (.v val),some (some (.i a)),none=>vcSlice T el val (some a) none k
  | some (.slice el),some (.v val),none,some (some (.i b))=>vcSlice T el val none (some b) k
  | some (.slice el),some (.v val),some (some (.i a)),some (some (.i b))=>vcSlice T el val (some a) (some b) k
  | _,_,_,_=>False
 | .extract x i=>match ev e x with
  | some (.tup xs)=>(match xs[i]? with | some y=>k y | none=>False)
  | _=>False
 | .nilCheck x=>match ev e x with
  | some (.a b off)=>k (.a b off)
  | some (.v val)=>∃b off,val= .pointer (some ⟨b,off,none⟩)/\k (.a b off)
  | _=>False
 | .fieldAddr s x f=>match T.und s,ev e x with
  | some (.struct fs),some (.a b off)=>(match fs[f]? with
   | some fd=>(match T.inf fd.type with
    | some (_,sz,_)=>if sz=0 then False else k (.a b (off+fd.offset))
    | none=>False)
   | none=>False)
  | _,_=>False
 | .indexAddr t x H=>match T.und t,ev e x,(ev e H).bind asI with
  | some (.slice el),some (.v val),some n=>(match T.inf el with
   | some (_,sz,_)=>∃b off len cap,val= .slice (some ⟨b,off,none⟩) len cap/\0<=n/\n< len/\k (.a b (off+n.toNat* sz))
   | none=>False)
  | some (.array len el),some (.a b off),some n=>(match T.inf el with
   | some (_,sz,_)=>(0<=n/\n< len)/\k (.a b (off+n.toNat* sz))
   | none=>False)
  | _,_,_=>False
 | .build t parts=>match T.und t,T.inf t,evp e parts.toList with
  | some (.struct fs),some (.agg zs,_,_),some G=>if fs.toList.all (λf=>(T.inf f.type).isSome)then(match buildAg T fs (zs.toList.map svOf) G with
   | some xs=>iT G (k (.ag xs))
   | none=>False)else False
  | some (.array _ el),some (.agg zs,_,_),some []=>if(T.inf el).isSome then k (.agl zs.toList)else False
  | some (.array _ el),some (.agg zs,_,_),some (p::G)=>(match T.inf el with
   | some (_,1,_)=>(match pj (zs.toList.map svOf) (p::G)with
    | some xs=>iT (p::G) (k (.ag xs))
    | none=>False)
   | _=>False)
  | _,_,_=>False
 | .makeFunc fn first captured=>match fn,evs e first.toList,evs e captured.toList with
  | .func f,some [],some ys=>k (.v (.func (.func f) #[] (SV.vals ys).toArray))
  | _,_,_=>False
 | .call c=>match c.callee with
  | .builtin .len=>(match c.argTypes[0]?,(c.args[0]?).bind (ev e)with
   | some t,some (.s l)=>(match T.und t with | some .string=>k (.i l.length) | _=>False)
   | some t,some (.v val)=>(match T.und t with | some (.slice _)=>∃a n cap,val= .slice a n cap/\k (.i n) | _=>False)
   | _,_=>False)
  | .builtin .max=>(match evs e c.args.toList with
   | some [.i p,.i q]=>k (.i (if q> p then q else p))
   | some [.s p,.s q]=>k (.s (if(!Op.bytesLess p q)then p else q))
   | _=>False)
  | .builtin .min=>(match evs e c.args.toList with
   | some [.i p,.i q]=>k (.i (if q< p then q else p))
   | some [.s p,.s q]=>k (.s (if(Op.bytesLess p q||decide (p=q))then p else q))
   | _=>False)
  | _=>False
 | _=>False
def vcLoadAt (T:gX)(t b off:Nat)(w:World)(k:SV->World->Prop):Prop:=
 if single (T.und t)then Jt (yh (T.und t)) λy=>w.cell? ⟨b,off,none⟩=some y.val/\k y w else if wD (T.und t)then
   (match CS T t,T.inf t with
   | some z,some (_,n,_)=>if z.length=n then EX z λxs=>jP w b off xs/\k (.ag xs) w else False
   | none,some (_,n,_)=>∃cs:List Value,cs.length=n/\(∀j,j< n->w.cell? ⟨b,off+j,none⟩=cs[j]?)/\k (.agl cs) w
   | _,_=>False)else False
def vcStoreAt (T:gX)(t b off:Nat)(z:SV)(w:World)(k:SV->World->Prop):Prop:=
 if single (T.und t)then
    (match T.inf t with
    | some (_,1,_)=>oneOk z (((∃u,w.cell? ⟨b,off,none⟩=some u)/\w.frozen? ⟨b,off,none⟩=false)/\∀w',w'=w.setCell ⟨b,off,none⟩ z.val->k .un w')
    | _=>False)
   else(match T.inf t,z with
    | some (_,n,_),.ag xs=>wV w b off n (SV.vals xs) k
    | some (_,n,_),.agl cs=>wV w b off n cs k
    | some (_,n,_),.v x=>∃cs:List Value,x= .agg cs.toArray/\wV w b off n cs k
    | _,_=>False)
noncomputable def cH (es:List MapEntry)(q:Value):Option Value:=open Classical in (es.find? λx=>decide (x.key=q)).map (·.val)
def lM (d:TypeDesc)(q:Value):Prop:=match d with
 | .array n _=>n=2/\∃x y,q= .agg #[.string x,.string y]
 | d=>MapKept.IsKey d q
def IsMap (w:World)(r:Nat)(d:TypeDesc)(m:Value->Option Value):Prop:=
 ∃es clock,w.heap[r]?=some (.map es clock)/\MapKept.Stamped es clock/\(∀x∈es.toList,lM d x.key)/\∀q,m q=cH es.toList q
noncomputable def bK (m:Value->Option Value)(q v:Value):Value->Option Value:=open Classical in λx=>if x=q then some v else m x
structure bc (w w':World)(r:Nat):Prop where
 os:w'.os=w.os
 tape:w'.tape=w.tape
 output:w'.output=w.output
 size:w'.heap.size=w.heap.size
 block:∀b,b≠r->w'.heap[b]?=w.heap[b]?
def keyOk (d:TypeDesc)(y:SV):Bool:=match d,y with
 | .int .i64,.i _=>true
 | .int .u8,.c _=>true
 | .string,.s _=>true
 | _,_=>false
def keyOkT (T:gX)(d:TypeDesc)(y:SV):Bool:=keyOk d y||match d,y with
 | .array 2 e,.ag [.s _,.s _]=>(match T.und e,T.inf e with
  | some .string,some (_,1,_)=>true
  | _,_=>false)
 | _,_=>false
def nv (w:World)(r:Nat)(s:Int)(q:Value):Prop:=
 ∃(es:Array MapEntry) (clock j:Nat) (x:MapEntry),w.heap[r]?=some (.map es clock)/\es[j]?=some x/\x.key=q/\s=x.born
def DK (d:Option TypeDesc):Bool:=match d with
 | some (.struct _)=>true
 | some (.array _ _)=>true
 | _=>false
def vcMapUp (T:gX)(e:Env)(t:Nat)(m x y:Operand)(w:World)(k:SV->World->Prop):Prop:=match T.und t,ev e m,ev e x,ev e y with
  | some (.map kt _),some (.v val),some q,some z=>(match T.und kt with
   | some d=>if keyOkT T d q=true then ∃(r:Nat) (mm:Value->Option Value),val= .map (some r)/\IsMap w r d mm/\∀w',IsMap w' r d (bK mm q.val z.val)->bc w w' r->k .un w' else False
   | none=>False)
  | _,_,_,_=>False
def vcOp (T:gX)(e:Env)(o:Oper)(w:World)(k:SV->World->Prop):Prop:=
 match o.op with
 | .convert src dst x=>match T.und src,T.und dst,ev e x with
  | some .string,some (.slice el),some (.s l)=>(match T.und el with
   | some (.int .u8)=>∀(b cap:Nat) (w':World),b=w.heap.size->iC w' el b l->w.grownBy w' none->k (.v (.slice (some ⟨b,0,none⟩) l.length cap)) w'
   | _=>False)
  | some (.slice el),some .string,some (.v val)=>(match T.und el with
   | some (.int .u8)=>∃(b off n c:Nat) (l:ay),val= .slice (some ⟨b,off,none⟩) n c/\l.length=n/\(∀j x,l[j]?=some x->w.cell? ⟨b,off+j,none⟩=some (.int .u8 x.toNat))/\k (.s l) w
   | _=>False)
  | _,_,_=>vcPure T e o λy=>k y w
 | .load t x=>match ev e x with
  | some (.a b off)=>vcLoadAt T t b off w k
  | some (.v val)=>∃b off,val= .pointer (some ⟨b,off,none⟩)/\vcLoadAt T t b off w k
  | _=>False
 | .store t x y=>match ev e x,ev e y with
  | some (.a b off),some z=>vcStoreAt T t b off z w k
  | some (.v val),some z=>∃b off,val= .pointer (some ⟨b,off,none⟩)/\vcStoreAt T t b off z w k
  | _,_=>False
 | .alloc el=>match T.inf el with
  | some (z,_,_)=>∀(b:Nat) (w':World),b=w.heap.size->w'=w.alloc (.cells z.cells el)->k (.a b 0) w'
  | none=>False
 | .makeMap _ none=>∀(b:Nat) (w':World),b=w.heap.size->w'=w.alloc (.map #[] 0)->k (.v (.map (some b))) w'
 | .makeSlice t l c=>match T.und t,ev e l,ev e c with
  | some (.slice el),some (.i n),some (.i m)=>(match T.inf el with
   | some (z,1,by_)=>if oneV z=true/\by_<=256 then(0<=n/\n=m/\n<=1099511627776)/\∀(b:Nat) (w':World),b=w.heap.size->w'=w.alloc (.cells (List.replicate n.toNat z).toArray el)->k (.v (.slice (some ⟨b,0,none⟩) n.toNat n.toNat)) w' else False
   | _=>False)
  | _,_,_=>False
 | .mapUpdate t m x y=>vcMapUp T e t m x y w k
 | .insert t m x y=>vcMapUp T e t m x y w k
 | .mapEntry t m x=>match T.und t,ev e m,ev e x with
  | some (.map kt G),some (.v val),some q=>(match T.und kt,T.inf G with
   | some d,some _=>if keyOkT T d q=true then ∃(r:Nat) (mm:Value->Option Value),val= .map (some r)/\IsMap w r d mm/\∀(v0:Value) (s:Int) (w':World),IsMap w' r d (bK mm q.val v0)->bc w w' r->nv w' r s q.val->k (.tup [.v v0,.i s]) w' else False
   | _,_=>False)
  | _,_,_=>False
 | .entryStore _ m s y=>match ev e m,ev e s,ev e y with
  | some (.v val),some (.i s),some y=>∃(r:Nat) (d:TypeDesc) (mm:Value->Option Value) (q:Value),val= .map (some r)/\IsMap w r d mm/\nv w r s q/\∀w',IsMap w' r d (bK mm q y.val)->bc w w' r->k .un w'
  | _,_,_=>False
 | .lookup t m x ok=>match T.und t,ev e m,ev e x with
  | some (.map kt G),some (.v val),some q=>(match T.und kt,T.inf G with
   | some d,some (z,_,_)=>if keyOkT T d q=true then ∃(r:Nat) (mm:Value->Option Value),val= .map (some r)/\IsMap w r d mm/\Jt (yh (T.und G)) λy=>∃g:Bool,((g=true/\mm q.val=some y.val)\/(g=false/\mm q.val=none/\y.val=z))/\k (if ok then .tup [y,.b g]else y) w else False
   | _,_=>False)
  | _,_,_=>False
 | .box el x=>match ev e x with
  | some (.v val)=>if DK (T.und el)then ∃cs:List Value,val= .agg cs.toArray/\∀(b:Nat) (w':World),b=w.heap.size->w'=w.alloc (.cells cs.toArray el)->k (.a b 0) w'
   else oneV val=true/\∀(b:Nat) (w':World),b=w.heap.size->w'=w.alloc (.cells #[val] el)->k (.a b 0) w'
  | some y=>Iv y (∀(b:Nat) (w':World),b=w.heap.size->w'=w.alloc (.cells (cellsOf y).toArray el)->k (.a b 0) w')
  | none=>False
 | .buildSlice t len parts=>match T.und t,evp e parts.toList with
  | some (.slice el),some I=>(match T.inf el with
   | some (z,sz,_)=>if z.cells.size=sz/\0< sz/\len* sz<=16777216 then(match buildRow sz (List.replicate len z.cells.toList).flatten I with
     | some cs=>iT I (∀(b:Nat) (w':World),b=w.heap.size->w'=w.alloc (.cells cs.toArray el)->k (.v (.slice (some ⟨b,0,none⟩) len len)) w')
     | none=>False)else False
   | none=>False)
  | _,_=>False
 | .call c=>match c.callee with
  | .builtin .append=>(match c.argTypes.toList,evs e c.args.toList with
   | [t,J],some [.v s,.v x]=>if t=J then(match T.und t with
     | some (.slice el)=>(match T.inf el with
      | some (z,sz,by_)=>if z.cells.size=sz/\0< sz then xD el sz by_ s x w k else False
      | none=>False)
     | _=>False)else False
   | _,_=>False)
  | .builtin .clear=>(match c.argTypes.toList,evs e c.args.toList with
   | [t],some [.v s]=>(match T.und t with
    | some (.slice el)=>(match T.inf el with
     | some (z,1,_)=>if oneV z=true then ∃(a:Option Addr) (n cap:Nat),s= .slice a n cap/\((n=0/\k (.tup []) w)\/∃b off,a=some ⟨b,off,none⟩/\(∀j,j< n->(∃u,w.cell? ⟨b,off+j,none⟩=some u)/\w.frozen? ⟨b,off+j,none⟩=false)/\∀w',w'=World.setCells w b off (List.replicate n z)->k (.tup []) w')else False
     | _=>False)
    | _=>False)
   | _,_=>False)
  | .value (.tmp t)=>(match look e t,evs e c.args.toList with
   | some (.v val),some xs=>∃(f:Nat) (ca:List Value),val= .func (.func f) #[] ca.toArray/\T.fn f=true/\
     Calls T.P f (SV.vals xs++ca).toArray w (ax (AY T o.type) (Cur.mk (AY T o.type) λH w'=>k (packSV H) w'))
   | _,_=>False)
  | .value (.func f)=>if T.fn f then
    (match evs e c.args.toList with
    | some xs=>Calls T.P f (SV.vals xs).toArray w (ax (AY T o.type) (Cur.mk (AY T o.type) λH w'=>k (packSV H) w'))
    | none=>False)
   else False
  | _=>vcPure T e o λy=>k y w
 | _=>vcPure T e o λy=>k y w
section
variable {T:gX} {N:Nat} {e:Env} {o:Oper} {a:Act} {w:World} {k:SV->World->Prop}
def cW (P:Program)(o:Oper)(a:Act)(w:World)(k:SV->World->Prop):Prop:=
 ∀(next:Act->World->Prop) (Q:Exit->Act->World->Prop),(∀y w',k y w'->next (a.put o.dst y.val) w')->o.wp P a w next Q
theorem cW.value {P:Program}{v:Value}{y:SV}{w':World}(h:(execOp a.eval o).run P w= .ok (.value v) w')(z:v=y.val)(G:k y w'):cW P o a w k:=by
 intro next Q H;unfold Oper.wp;rw [h,z];exact H _ _ G
theorem cW.skip {P:Program}{w':World}(h:(execOp a.eval o).run P w= .ok .skip w')(z:k .un w'):cW P o a w k:=by
 intro next Q G;unfold Oper.wp;rw [h];exact G _ _ z
theorem gV (h:aD N e a):∀{l:List Operand} {xs:List SV},evs e l=some xs->l.map a.eval=SV.vals xs
 | [],xs,z=>by cases z;rfl
 | x::l,xs,z=>by
  unfold evs at z;split at z
  ·rename_i y H G h2;cases z;simp [SV.vals,aE h G,gV h h2]
  ·cases z
theorem jU:∀{xs z:List SV},SV.vals z=SV.vals xs->valOf xs=(packSV z).val
 | [],[],_=>rfl
 | [],_::_,h=>by simp [SV.vals]at h
 | _::_,[],h=>by simp [SV.vals]at h
 | [x],[y],h=>by simp [SV.vals]at h;simp [valOf,packSV,h]
 | [x],_::_::_,h=>by simp [SV.vals]at h
 | _::_::_,[y],h=>by simp [SV.vals]at h
 | x::G::xs,y::H::z,h=>by simp only [valOf,packSV,SV.val];rw [h]
theorem Cq {f:Nat}{c:Call}{xs:List SV}{L:List Kd}(I:aD N e a)(W:o.op= .call c)(hc:c.callee= .value (.func f))(Z:T.fn f=true)(hx:evs e c.args.toList=some xs)
  (h:Calls T.P f (SV.vals xs).toArray w (ax L (Cur.mk L λV w'=>k (packSV V) w'))):cW T.P o a w k:=by
 intro next Q hn;obtain⟨g,hg,hb,J⟩:=T.fn_ok f Z;have z:c.args.map a.eval=(SV.vals xs).toArray:=by
  apply Ll.1;rw [Le,gV I hx]
 have G:(execOp a.eval o).run T.P w= .ok (.enter f (SV.vals xs).toArray) w:=by
  simp only [execOp,W,resolve,hc,Act.eval,z,Deferred.ofValue,Kk,Ku,Ka,invoke,callFunc,run_program,hg,hb,J];simp
 unfold Oper.wp;rw [G,Oper.upon_enter];refine Calls.mono h λe' w' hr=>?_
 obtain⟨V,rfl,H,_⟩:=lP.get _ _ _ _ _ hr;obtain⟨zs,hz,hk⟩:=Cur.zg _ _ _ _ H;have :=hn _ _ hk;simpa [jU hz]using this
end
section
variable {T:gX} {N:Nat} {e:Env} {o:Oper} {a:Act} {w:World} {k:SV->World->Prop}
theorem bE {T:gX}{t:Nat}{d:TypeDesc}(h:T.und t=some d)(w:World):(underlying t).run T.P w= .ok d w:=Mv (T.und_ok _ _ h) w
theorem bH {T:gX}{t:Nat}{z:Value}{s b:Nat}(h:T.inf t=some (z,s,b))(w:World):
  (sizeOf t).run T.P w= .ok s w/\(zeroValue t).run T.P w= .ok z w:=by
 obtain⟨i,G,H,I,hb⟩:=T.inf_ok _ _ _ _ h;constructor
 ·simp [sizeOf,typeInfo,G,I]
 ·simp [zeroValue,typeInfo,G,H]
theorem oK {t:Nat}(h:single (T.und t)=true)(w:World):(isAgg t).run T.P w= .ok false w:=by
 cases hu:T.und t with
 | none=>rw [hu]at h;cases h
 | some d=>
  unfold isAgg;rw [Kk,bE hu,Ka];rw [hu]at h;cases d<;>first | (cases h;done) | simp
def cK (P:Program)(o:Oper)(a:Act)(k:SV->Prop):Prop:=∃y,k y/\∀w,(execOp a.eval o).run P w= .ok (.value y.val) w
theorem cK.mk {P:Program}{k:SV->Prop}(y:SV)(z:k y)(h:∀w,(execOp a.eval o).run P w= .ok (.value y.val) w):cK P o a k:=⟨y,z,h⟩
theorem uW {k:SV->Prop}{x:Operand}(G:aD N e a)(z:o.op= .move x\/o.op= .assign x){y:SV}(H:ev e x=some y)(h:k y):cK T.P o a k:=by
 refine cK.mk y h λw=>?_
 rw [<-aE G H];rcases z with z | z<;>simp [execOp,z]
theorem vB {k:SV->Prop}{c x y:Operand}{b:Bool}{z:SV}(G:aD N e a)(H:o.op= .pick c x y)(hc:a.eval c= .bool b)
  (I:ev e (if b then x else y)=some z) (h:k z):cK T.P o a k:=by
 refine cK.mk z h λw=>?_
 rw [<-aE G I];simp only [execOp,H,hc,asBool,Kk,Ku,Ka];cases b<;>simp
theorem dE {k:SV->Prop}{op:BinOp}{t J:Nat}{x y:Operand}{p q z:SV}(G:aD N e a)(V:o.op= .binOp op t x y J)(I:ev e x=some p)(W:ev e y=some q)
  (H:∀b:Value,(match p.val,b with | .nilIface,.nilIface=>false | .agg _,.agg _=>false | _,_=>true)=true)
  (hr:∀w,(binOp op t p.val q.val).run T.P w= .ok z.val w) (h:k z):cK T.P o a k:=by
 refine cK.mk z h λw=>Aj V (eqGuard_plain ?_) ?_
 ·rw [aE G I];exact H _
 ·rw [aE G I,aE G W];exact hr w
theorem zO {op:BinOp}{p q z:SV}(h:binT op p q=some z):∀b:Value,(match p.val,b with | .nilIface,.nilIface=>false | .agg _,.agg _=>false | _,_=>true)=true:=by
 refine vi p ?_ ?_ ?_ ?_<;>rintro y rfl<;>(unfold binT at h;split at h<;>simp_all)
theorem y5 {op:BinOp}{p q z:SV}{P:Prop}(h:binP op p q=some (P,z)):∀b:Value,(match p.val,b with | .nilIface,.nilIface=>false | .agg _,.agg _=>false | _,_=>true)=true:=by
 refine vi p ?_ ?_ ?_ ?_<;>rintro y rfl<;>(unfold binP at h;split at h<;>simp_all)
theorem oN {x:SV}{b:Bool}(h:asB x=some b):x.val= .bool b:=by
 cases x<;>simp [asB]at h<;>subst h<;>rfl
theorem Ax {x:SV}{n:Int}(h:asI x=some n):∃kd,x.val= .int kd n:=by
 cases x<;>simp [asI]at h<;>subst h<;>exact⟨_,rfl⟩
theorem uT {x:SV}{b:Bool}(h:asB x=some b):∀b:Value,(match x.val,b with | .nilIface,.nilIface=>false | .agg _,.agg _=>false | _,_=>true)=true:=by
 intro c;rw [oN h]
theorem sJ {t:Nat}(z:T.und t=some .bool)(p q:Bool):(binOp .eql t (.bool p) (.bool q)).run T.P w= .ok (.bool (p==q)) w/\(binOp .neq t (.bool p) (.bool q)).run T.P w= .ok (.bool (!(p==q))) w:=by
 have h:(Op.equal t (.bool p) (.bool q)).run T.P w= .ok (p==q) w:=by
  show(Op.equalIn Op.maxDepth t _ _).run T.P w=_;have:Op.maxDepth=(Op.maxDepth - 1)+1:=rfl;rw [this];simp only [Op.equalIn,Kk,bE z,Ka,Ku]
 constructor<;>simp only [binOp,Kk,h,Ka,Ku]
theorem Fy {x y:SV}(h:Ih x=some y):(Op.unary .not x.val).run T.P w= .ok y.val w:=by
 cases x<;>simp [Ih]at h<;>subst h<;>rfl
theorem Ct {n:Int}(z:0<=n)(h:n< 128):Utf8.encode n=ab [UInt8.ofNat n.toNat]:=by
 obtain⟨m,rfl⟩:=Int.eq_ofNat_of_zero_le z;have hm:m< 128:=by omega
 clear h z;revert m;decide+kernel
theorem Fq {t:Nat}{l:ay}{n:Int}(G:T.und t=some .string)(H:0<=n)(J:n< l.length):(Instr.index t (.string (ab l)) (.int .i64 n)).run T.P w= .ok (.int .u8 (bt l n.toNat).toNat) w:=by
 have z:n.toNat< l.length:=by omega
 have I:(ab l)[n.toNat]?=some (bt l n.toNat):=by
  rw [getElem?_pos (ab l) n.toNat (by rw [fK];exact z)]
  congr 1
  show l.toArray[n.toNat]'_=_;simp only [bt,List.getD,J2 z,Option.getD_some];rfl
 simp only [Instr.index,asIntOf,Kk,Ku,Ka,bE G,KG H,I]
theorem BD {x:Int}{y:Nat}{code:BoundsCode}(z:0<=x)(G:x<=y):(Instr.sliceBound (.int .i64 x) y code).run T.P w= .ok x.toNat w:=by
 simp only [Instr.sliceBound,asIntOf,Kk,Ku,Ka,KG (And.intro z G)]
def nK (x:Option Int):Option Value:=x.map (Value.int .i64)
theorem tL {isS:Bool}{len cap:Nat}{z G:Option Int}(H:0<=z.getD 0)(I:z.getD 0<=G.getD len)(h2:G.getD len<=cap):
  (Instr.sliceBounds isS len cap (nK z) (nK G) none).run T.P w= .ok ((z.getD 0).toNat,(G.getD len).toNat,cap) w:=by
 have hb:∀(x:Int) (y:Nat) (c:BoundsCode),0<=x->x<=y->(Instr.sliceBound (.int .i64 x) y c).run T.P w= .ok x.toNat w:=λx y c a b=>BD a b
 cases z<;>cases G<;>simp only [nK,Option.map_none,LR,Option.getD_none,Option.getD_some]at*
 ·simp [Instr.sliceBounds]
 ·simp [Instr.sliceBounds,hb _ _ _ (by omega) h2]
 ·simp [Instr.sliceBounds,hb _ _ _ H I]
 ·rename_i x y;simp [Instr.sliceBounds,hb _ _ _ (by omega:0<=y) h2,hb x y.toNat _ H (by omega)]
theorem wA {t:Nat}{l:ay}{z G:Option Int}(H:T.und t=some .string)(I:0<=z.getD 0)(J:z.getD 0<=G.getD l.length)(h2:G.getD l.length<=l.length):
  (Instr.sliceAt t (.string (ab l)) (nK z) (nK G) none).run T.P w= .ok (.string (ab ((l.take (G.getD l.length).toNat).drop (z.getD 0).toNat))) w:=by
 simp only [Instr.sliceAt,Instr.slice,Kk,bE H,Ka,Option.isSome_none,L7,ME,fK,tL I J h2,Ku,xm]
theorem yV {t el sz len cap b:Nat}{z:Value}{I:Option Addr}{G H:Option Int}(V:T.und t=some (.slice el))(J:T.inf el=some (z,sz,b))(W:0<=G.getD 0)(Z:G.getD 0<=H.getD len)(h2:H.getD len<=cap):
  (Instr.sliceAt t (.slice I len cap) (nK G) (nK H) none).run T.P w=
   .ok (.slice (if cap=(G.getD 0).toNat then I else I.map (·.add ((G.getD 0).toNat* sz))) ((H.getD len).toNat - (G.getD 0).toNat) (cap - (G.getD 0).toNat)) w:=by
 simp only [Instr.sliceAt,Instr.slice,Kk,bE V,Ka,tL W Z h2,Ku,(bH J w).1]
theorem add_plain (b off n:Nat):(⟨b,off,none⟩:Addr).add n=⟨b,off+n,none⟩:=by
 unfold Addr.add;split
 ·rename_i h;subst h;rfl
 ·rfl
theorem BE {s b off f sz G:Nat}{fs:Array Field}{fd:Field}{z:Value}(H:T.und s=some (.struct fs))(I:fs[f]?=some fd)(J:T.inf fd.type=some (z,sz,G))(V:sz≠0):
  (Instr.fieldAt s (.pointer (some ⟨b,off,none⟩)) f).run T.P w= .ok (.pointer (some ⟨b,off+fd.offset,none⟩)) w:=by
 simp only [Instr.fieldAt,Kk,bE H,Ka,I,Instr.sureAddr,Ku,fieldPlace,(bH J w).1,Ko V,add_plain]
theorem Cf {t el sz G b off len cap:Nat}{z:Value}{kd:IntKind}{n:Int}(H:T.und t=some (.slice el))(I:T.inf el=some (z,sz,G))(J:0<=n)(V:n< len):
  (Instr.indexAt t (.slice (some ⟨b,off,none⟩) len cap) (.int kd n)).run T.P w= .ok (.pointer (some ⟨b,off+n.toNat* sz,none⟩)) w:=by
 simp only [Instr.indexAt,asIntOf,Kk,Ku,Ka,bE H,KG (And.intro J V),(bH I w).1,add_plain]
theorem BA {t el sz G b off len:Nat}{z:Value}{kd:IntKind}{n:Int}(H:T.und t=some (.array len el))(I:T.inf el=some (z,sz,G))(J:0<=n)(V:n< len):
  (Instr.indexAt t (.pointer (some ⟨b,off,none⟩)) (.int kd n)).run T.P w= .ok (.pointer (some ⟨b,off+n.toNat* sz,none⟩)) w:=by
 simp only [Instr.indexAt,asIntOf,Kk,Ku,Ka,bE H,Instr.sureAddr,KG (And.intro J V),(bH I w).1,add_plain]
theorem p8 {t b off:Nat}{v:Value}(z:single (T.und t)=true)(hc:w.cell? ⟨b,off,none⟩=some v):
  (Instr.loadAt t (.pointer (some ⟨b,off,none⟩))).run T.P w= .ok v w:=by
 simp only [Instr.loadAt,Instr.sureAddr,Kk,Ku,Ka,loadVar,oK z];simp [load,Sem.run,hc]
theorem pY {b off:Nat}:∀(n i:Nat) (cs:List Value) (acc:Array Value),cs.length=i+n->(∀j,j< i+n->w.cell? ⟨b,off+j,none⟩=cs[j]?)->acc.toList=cs.take i->
  (loadCellsFrom ⟨b,off,none⟩ i n acc).run T.P w= .ok cs.toArray w
 | 0,i,cs,acc,H,hc,ha=>by
  simp only [loadCellsFrom,Ku];rw [MS (by omega)]at ha;rw [<-ha]
 | n+1,i,cs,acc,H,hc,ha=>by
  have z:i< cs.length:=by omega
  have G:=hc i (by omega);rw [J2 z]at G;have:(load ((⟨b,off,none⟩:Addr).add i)).run T.P w= .ok cs[i] w:=by
   rw [add_plain];simp [load,Sem.run,G]
  simp only [loadCellsFrom,Kk,this,Ka];exact pY n (i+1) cs _ (by omega) (λj I=>hc j (by omega)) (by rw [M0,ha,J8 z])
theorem ja {t:Nat}(h:wD (T.und t)=true)(w:World):(isAgg t).run T.P w= .ok true w:=by
 cases hu:T.und t with
 | none=>rw [hu]at h;cases h
 | some d=>
  unfold isAgg;rw [Kk,bE hu,Ka];rw [hu]at h;cases d<;>first | (cases h;done) | simp
theorem jd {t b off n G:Nat}{z:Value}{cs:List Value}(H:(isAgg t).run T.P w= .ok true w)(I:T.inf t=some (z,n,G))(J:cs.length=n)
  (hc:∀j,j< n->w.cell? ⟨b,off+j,none⟩=cs[j]?):(Instr.loadAt t (.pointer (some ⟨b,off,none⟩))).run T.P w= .ok (.agg cs.toArray) w:=by
 simp only [Instr.loadAt,Instr.sureAddr,Kk,Ku,Ka,loadVar,H,(bH I w).1,LN,loadCells];rw [pY n 0 cs #[] (by omega) (λj V=>hc j (by omega)) (by simp)];rfl
theorem zT {t b off J:Nat}{z u v:Value}(V:T.inf t=some (z,1,J))(I:oneV v=true)(hc:w.cell? ⟨b,off,none⟩=some u)(W:w.frozen? ⟨b,off,none⟩=false):
  (Instr.storeAt t (.pointer (some ⟨b,off,none⟩)) v).run T.P w= .ok () (w.setCell ⟨b,off,none⟩ v):=by
 have G:v.cells=#[v]:=by cases v<;>first | rfl | (cases I;done)
 have H:(store (⟨b,off,none⟩:Addr) v).run T.P w= .ok () (w.setCell ⟨b,off,none⟩ v):=by
  cases v<;>first | (cases I;done) | (simp [store,Sem.run,hc,W])
 simp only [Instr.storeAt,Instr.sureAddr,Kk,Ku,Ka,storeVar,(bH V w).1,G];simp only [List.size_toArray,J0,Kh,ne_eq,MZ,ME,storeCells,Kk,add_plain,MF,H,Ka,Ku]
theorem BB {el:Nat}{z:Value}{s b:Nat}(G:T.inf el=some (z,s,b))(v:Value):
  (Instr.alloc el true (.tuple #[])).run T.P w= .ok (.pointer (some ⟨w.heap.size,0,none⟩)) (w.alloc (.cells z.cells el)):=by
 simp only [Instr.alloc,Kk,(bH G w).2,Ka,newVar,newRow,newObj,Sem.run,Ku,World.alloc]
theorem wQ {el:Nat}(v:Value):(Instr.box el v).run T.P w= .ok (.pointer (some ⟨w.heap.size,0,none⟩)) (w.alloc (.cells v.cells el)):=by
 simp only [Instr.box,Kk,newVar,newRow,newObj,Sem.run,Ka,Ku,World.alloc]
theorem Eh {t ty:Nat}{l:ay}(z:T.und t=some .string):(Builtin.len_ #[t] ty #[.string (ab l)]).run T.P w= .ok (.int .i64 l.length) w:=by
 simp [Builtin.len_,bE z,goInt,fK]
theorem DV {t ty el n cap:Nat}{z:Option Addr}(G:T.und t=some (.slice el)):(Builtin.len_ #[t] ty #[.slice z n cap]).run T.P w= .ok (.int .i64 n) w:=by
 simp [Builtin.len_,bE G,goInt]
end
section
variable {T:gX} {N:Nat} {e:Env} {o:Oper} {a:Act} {w:World} {k:SV->World->Prop}
theorem Iv.get {z:SV}{p:Prop}(h:Iv z p):z.val.cells=(cellsOf z).toArray/\p:=by
 cases z with
 | v x=>obtain⟨G,h2⟩:=h;refine⟨?_,h2⟩;cases x<;>first | rfl | (cases G;done)
 | tup xs=>exact h.elim
 | un=>exact h.elim
 | _=>exact⟨rfl,h⟩
theorem iT.get:∀{G:List (Nat×SV)} {p:Prop},iT G p->(∀x,x∈G->x.2.val.cells=(cellsOf x.2).toArray)/\p
 | [],p,h=>⟨λx z=>(by cases z),h⟩
 | q::G,p,h=>by
  obtain⟨H,h2⟩:=Iv.get h;obtain⟨I,h4⟩:=iT.get h2;refine⟨λx z=>?_,h4⟩;cases z with
  | head=>exact H
  | tail _ z=>exact I x z
theorem yN (z:Value):(svOf z).val=z:=by
 unfold svOf;split
 ·rfl
 ·split
  ·rename_i n G;show Value.int .u8 _=_;simp only [K2,Nat.reducePow];congr 1;omega
  ·rfl
 ·split
  ·rename_i n G;show Value.int .u32 _=_;simp only [Np,Nat.reducePow];congr 1;omega
  ·rfl
 ·rename_i s;show Value.string (ab s.data.toList)=_;rw [<-HZ]
 ·rfl
 ·rfl
 ·rfl
theorem jP.get {b:Nat}:∀{off:Nat} {xs:List SV},jP w b off xs->∀j,j< xs.length->w.cell? ⟨b,off+j,none⟩=(SV.vals xs)[j]?
 | off,[],h,j,z=>by simp at z
 | off,x::xs,h,0,z=>by simpa [SV.vals]using h.1
 | off,x::xs,h,j+1,z=>by
  have :=jP.get h.2 j (by simpa using z);rw [show off+(j+1)=off+1+j by omega,this];simp [SV.vals]
theorem gG:∀(l:List SV),(SV.vals l).length=l.length
 | []=>rfl
 | _::l=>by simp [SV.vals,gG l]
theorem EX.get:∀{L:List Kd} {K:List SV->Prop},EX L K->∃xs,xs.length=L.length/\K xs
 | [],K,h=>⟨[],rfl,h⟩
 | k::L,K,⟨t,h⟩=>by
  obtain⟨xs,z,h2⟩:=EX.get h;exact⟨k.sv t::xs,by simp [z],h2⟩
theorem rj {b off z:Nat}{v:Value}(h:off≠z):(w.setCell ⟨b,off,none⟩ v).cell? ⟨b,z,none⟩=w.cell? ⟨b,z,none⟩:=by
 unfold World.cell? World.setCell;simp only [L3,LN];cases H:w.heap[b]? with
 | none=>rfl
 | some G=>
  cases G<;>simp [Array.getElem?_setIfInBounds,h]
theorem tY {b off:Nat}{v:Value}(x:Addr):(w.setCell ⟨b,off,none⟩ v).frozen? x=w.frozen? x:=Kt _ _ _ _
theorem nP {b:Nat}:∀(cs:List Value) (off i:Nat) (w:World),cs.all oneV=true->(∀j,j< cs.length->(∃u,w.cell? ⟨b,off+i+j,none⟩=some u)/\w.frozen? ⟨b,off+i+j,none⟩=false)->
  (storeCells (⟨b,off,none⟩:Addr) cs i).run T.P w= .ok () (World.setCells w b (off+i) cs)
 | [],off,i,w,_,_=>rfl
 | v::cs,off,i,w,z,hc=>by
  simp only [Lg,J3]at z;obtain⟨⟨u,hu⟩,H⟩:=hc 0 (by simp);simp only [MF]at hu H;have G:(store (⟨b,off+i,none⟩:Addr) v).run T.P w= .ok () (w.setCell ⟨b,off+i,none⟩ v):=by
   have :=z.1;cases v<;>first | (cases this;done) | (simp [store,Sem.run,hu,H])
  simp only [storeCells,Kk,add_plain,G,Ka,World.setCells];rw [nP cs off (i+1) _ z.2 λj I=>?_]
  ·rfl
  ·have :=hc (j+1) (by simpa using I);rw [show off+i+(j+1)=off+(i+1)+j by omega]at this;rw [rj (by omega),tY];exact this
theorem xT {t b off n H:Nat}{z:Value}{cs:List Value}(I:T.inf t=some (z,n,H))(G:cs.length=n)(J:cs.all oneV=true)
  (hc:∀j,j< n->(∃u,w.cell? ⟨b,off+j,none⟩=some u)/\w.frozen? ⟨b,off+j,none⟩=false):
  (Instr.storeAt t (.pointer (some ⟨b,off,none⟩)) (.agg cs.toArray)).run T.P w= .ok () (World.setCells w b off cs):=by
 have V:(Value.agg cs.toArray).cells=cs.toArray:=rfl;simp only [Instr.storeAt,Instr.sureAddr,Kk,Ku,Ka,storeVar,(bH I w).1,V];rw [Ko (by simp [G])];exact nP cs off 0 w J (by simpa [G]using hc)
theorem sn {x:SV}:∀(l:List SV) (j:Nat),SV.vals (l.set j x)=(SV.vals l).set j x.val
 | [],_=>rfl
 | y::l,0=>rfl
 | y::l,j+1=>by simp [SV.vals,sn l j]
theorem Bj {place:Nat->Option (Nat×Nat)}{fs:Array Field}(W:∀(i:Nat) (fd:Field) sz z b,fs[i]?=some fd->T.inf fd.type=some (z,sz,b)->place i=some (fd.offset,sz)):
  ∀(I:List (Nat×SV)) (zs xs:List SV),(∀x,x∈I->x.2.val.cells=(cellsOf x.2).toArray)->buildAg T fs zs I=some xs->
   Instr.fill place (SV.vals zs).toArray (I.map λp=>(p.1,p.2.val))=some (SV.vals xs).toArray
 | [],zs,xs,_,h=>by cases h;rfl
 | (i,x)::r,zs,xs,G,h=>by
  unfold buildAg at h;split at h
  ·rename_i fd J;split at h
   ·rename_i z b Z hc;split at h
    ·rename_i α;have ih:=Bj W r _ xs (λy hy=>G y (Ki _ hy)) h;have V:x.val.cells=#[x.val]:=by
      rw [G (i,x) (KR)];cases x<;>first | rfl | (cases hc;done)
     simp only [KE,Instr.fill,W i fd 1 z b J Z,V];rw [Ko (by simp [gG];omega)];have H:(#[x.val].zipIdx.foldl (λcs (c,j)=>cs.setIfInBounds (fd.offset+j) c) (SV.vals zs).toArray)=(SV.vals (zs.set fd.offset x)).toArray:=by
      rw [sn];simp
     rw [H];exact ih
    ·cases h
   ·cases h
  ·cases h
theorem tW (z:aD N e a):∀{l:List (Nat×Operand)} {G:List (Nat×SV)},evp e l=some G->l.map (λp=>(p.1,a.eval p.2))=G.map (λp=>(p.1,p.2.val))
 | [],G,h=>by cases h;rfl
 | (i,x)::l,G,h=>by
  unfold evp at h;split at h
  ·rename_i y I H h2;cases h;simp only [KE,aE z H,tW z h2]
  ·cases h
theorem zm {fs:Array Field}{w:World}(H:∀f∈fs.toList,∃z s b,T.inf f.type=some (z,s,b)):
  ∃pl:Array (Nat×Nat),(fs.mapM (m:=Sem) λf=>do pure (f.offset,<-sizeOf f.type)).run T.P w= .ok pl w/\
   ∀(i:Nat) (fd:Field) sz z b,fs[i]?=some fd->T.inf fd.type=some (z,sz,b)->pl[i]?=some (fd.offset,sz):=by
 obtain⟨l⟩:=fs;have key:∀l:List Field,(∀f∈l,∃z s b,T.inf f.type=some (z,s,b))->∃pl:List (Nat×Nat),(l.mapM (m:=Sem) λf=>do pure (f.offset,<-sizeOf f.type)).run T.P w= .ok pl w/\
   ∀(i:Nat) (fd:Field) sz z b,l[i]?=some fd->T.inf fd.type=some (z,sz,b)->pl[i]?=some (fd.offset,sz):=by
  intro l
  induction l with
  | nil=>intro _;exact⟨[],by simp,λi fd sz z b h=>by simp at h⟩
  | cons f l W=>
   intro h;obtain⟨z,s,b,V⟩:=h f (KR);obtain⟨pl,I,h2⟩:=W λg Z=>h g (Ki _ Z)
   refine⟨(f.offset,s)::pl,?_,?_⟩
   ·simp only [List.mapM_cons,Kk,(bH V w).1,Ka,Ku,I]
   ·intro i fd sz z' b' J G;cases i with
    | zero=>simp at J;subst J;rw [V]at G;cases G;rfl
    | succ i=>simpa using h2 i fd sz z' b' (by simpa using J) G
 obtain⟨pl,I,h2⟩:=key l H;refine⟨pl.toArray,?_,by simpa using h2⟩;rw [List.mapM_toArray];simp only [Sem.run_map,I];rfl
theorem Cd {t s b:Nat}{fs:Array Field}{zs:Array Value}{I:List (Nat×SV)}{xs:List SV}{parts:Array (Nat×Value)}(Z:T.und t=some (.struct fs))(hi:T.inf t=some (.agg zs,s,b))
  (H:∀f∈fs.toList,∃z s b,T.inf f.type=some (z,s,b)) (G:parts.toList=I.map λp=>(p.1,p.2.val)) (J:∀x,x∈I->x.2.val.cells=(cellsOf x.2).toArray) (hb:buildAg T fs (zs.toList.map svOf) I=some xs):
  (Instr.build t parts).run T.P w= .ok (.agg (SV.vals xs).toArray) w:=by
 obtain⟨pl,h1,h2⟩:=zm (w:=w) H;have hz:(SV.vals (zs.toList.map svOf)).toArray=zs:=by
  have:∀l:List Value,SV.vals (l.map svOf)=l:=by
   intro l;induction l with
   | nil=>rfl
   | cons v l ih=>simp only [KE,SV.vals,yN,ih]
  rw [this]
 have W:=Bj (place:=(pl[·]?)) h2 I _ xs J hb;rw [hz]at W;have V:(fs.mapM (m:=Sem) λf=>do let s<-sizeOf f.type;pure (f.offset,s)).run T.P w= .ok pl w:=h1;simp only [Instr.build,Kk,(bH hi w).2,Ka,bE Z,Value.cells];rw [V];simp only [Ka,G,W,Ku]
theorem xS:∀(vs:List Value) (k o:Nat) (cur:List Value),o+k+vs.length<=cur.length->
  (vs.zipIdx k).foldl (λcs (p:Value×Nat)=>cs.setIfInBounds (o+p.2) p.1) cur.toArray=(cur.take (o+k)++vs++cur.drop (o+k+vs.length)).toArray
 | [],k,o,cur,h=>by simp
 | v::vs,k,o,cur,h=>by
  simp only [J0]at h;simp only [List.zipIdx_cons,List.foldl_cons,List.setIfInBounds_toArray];rw [xS vs (k+1) o _ (by simp;omega)]
  congr 1
  have z:o+k< cur.length:=by omega
  rw [show o+(k+1)=o+k+1 by omega,J8 (by simp;omega),Nq (Kb _),List.drop_set_of_lt (by omega)];simp [show o+k+1+vs.length=o+k+(vs.length+1) by omega]
theorem xO {sz:Nat}:∀(H:List (Nat×SV)) (zs cs:List Value),(∀x,x∈H->x.2.val.cells=(cellsOf x.2).toArray)->buildRow sz zs H=some cs->
   Instr.fill (λi=>some (i* sz,sz)) zs.toArray (H.map λp=>(p.1,p.2.val))=some cs.toArray
 | [],zs,cs,_,h=>by cases h;rfl
 | (i,x)::r,zs,cs,z,h=>by
  unfold buildRow at h;split at h
  ·rename_i hc;have I:=xO r _ cs (λy J=>z y (Ki _ J)) h;have G:=z (i,x) (KR);simp only at G;simp only [KE,Instr.fill,G];rw [Ko (by simp;omega)];rw [<-I]
   congr 1
   have :=xS (cellsOf x) 0 (i* sz) zs (by omega);simp only [MF,hc.1]at this;rw [<-this,<-Array.foldl_toList,Array.toList_zipIdx]
  ·cases h
end
section
variable {T:gX} {N:Nat} {e:Env} {o:Oper} {a:Act} {w:World} {k:SV->World->Prop}
theorem BP (z:Array Value)(len sz:Nat)(I:z.size=sz)(Z:0< sz):((Array.range (len* sz)).map (z[· % z.size]!))=(List.replicate len z.toList).flatten.toArray:=by
 apply Ll.1;simp only [Le,Array.toList_range];apply MM
 ·simp [I]
 ·intro i J h2;simp only [Kz,Mn]at J;have hm:i % z.size< z.size:=Nat.mod_lt _ (by omega);simp only [Nf,List.getElem_range];rw [getElem!_pos z _ hm];have key:∀(len i:Nat) (h:i< len* z.size) (V:i< (List.replicate len z.toList).flatten.length),(List.replicate len z.toList).flatten[i]=z[i % z.size]'(Nat.mod_lt _ (by omega)):=by
   intro len
   induction len with
   | zero=>intro i h;omega
   | succ len W=>
    intro i h V;simp only [List.replicate_succ,List.flatten_cons];rw [List.getElem_append];split
    ·rename_i G;simp only [Array.length_toList]at G;simp only [Array.getElem_toList]
     congr 1
     exact(Ng G).symm
    ·rename_i H;simp only [Array.length_toList]at H;simp only [Array.length_toList];rw [W (i - z.size) (by rw [Nat.add_mul]at h;omega)]
     congr 1
     rw [<-Nat.mod_eq_sub_mod (by omega)]
  exact(key len i (by rw [I];exact J) _).symm
theorem zl {t el sz len b:Nat}{z:Value}{H:List (Nat×SV)}{cs:List Value}{parts:Array (Nat×Value)}(ht:T.und t=some (.slice el))(W:T.inf el=some (z,sz,b))(hz:z.cells.size=sz)(Z:0< sz)(hl:len* sz<=16777216)
  (G:parts.toList=H.map λp=>(p.1,p.2.val)) (I:∀x,x∈H->x.2.val.cells=(cellsOf x.2).toArray) (hb:buildRow sz (List.replicate len z.cells.toList).flatten H=some cs):
  (Instr.buildSlice t len parts).run T.P w= .ok (.slice (some ⟨w.heap.size,0,none⟩) len len) (w.alloc (.cells cs.toArray el)):=by
 have J:=xO H _ cs I hb;simp only [Instr.buildSlice,Kk,bE ht,Ka,(bH W w).1];rw [Ko (by omega)];by_cases V:len* sz=0
 ·have hlen:len=0:=by
   rcases Mw len with h | h
   ·exact h
   ·have :=Nat.mul_pos h Z;omega
  subst hlen;simp only [Nat.zero_mul,LN,Ku,Ka,Kk];have:((Array.range 0).map ((#[]:Array Value)[· % (#[]:Array Value).size]!))=#[]:=by simp
  simp only [List.replicate_zero,List.flatten_nil]at J;simp only [this,G,J,Kk,newRow,newObj,Sem.run,Ka,Ku,World.alloc]
 ·simp only [V,ME,Kk,(bH W w).2,Ka,Ku];rw [BP _ _ _ hz Z];simp only [G,J,Kk,newRow,newObj,Sem.run,Ka,Ku,World.alloc]
theorem rK {t el:Nat}(z:T.und t=some (.pointer el))(q:Option Addr):
  (binOp .eql t (.pointer q) (.pointer none)).run T.P w= .ok (.bool q.isNone) w/\(binOp .neq t (.pointer q) (.pointer none)).run T.P w= .ok (.bool (!q.isNone)) w:=by
 have h:(Op.equal t (.pointer q) (.pointer none)).run T.P w= .ok q.isNone w:=by
  show(Op.equalIn Op.maxDepth t _ _).run T.P w=_;have:Op.maxDepth=(Op.maxDepth - 1)+1:=rfl;rw [this];cases q<;>simp only [Op.equalIn,Kk,bE z,Ka,Ku]<;>rfl
 constructor<;>simp only [binOp,Kk,h,Ka,Ku]
theorem vO {src dst el:Nat}{l:ay}(z:T.und src=some .string)(hd:T.und dst=some (.slice el))(he:T.und el=some (.int .u8)):
  ∃cap w',(convert src dst (.string (ab l))).run T.P w= .ok (.slice (some ⟨w.heap.size,0,none⟩) l.length cap) w'/\iC w' el w.heap.size l/\w.grownBy w' none:=by
 have hr:=Go.Lib.run_convert_string_bytes (P:=T.P) w src dst el (ab l) (T.und_ok _ _ z) (T.und_ok _ _ hd) (T.und_ok _ _ he);rw [fK]at hr;refine⟨_,_,hr,⟨_,_,_,Go.Lib.bytesWorld_at_new w el (ab l),?_,?_,Kb _⟩,⟨rfl,rfl,rfl,?_,λj G _=>Go.Lib.bytesWorld_at_old w el (ab l) j G⟩⟩
 ·simp [Go.Lib.bytesCells,dI,ab,List.take_append]
 ·simp [Go.Lib.bytesCells,ab,ByteArray.size]
 ·rw [Go.Lib.bytesWorld_size];omega
theorem uo {b off n c:Nat}{l:ay}(I:l.length=n)(hc:∀j x,l[j]?=some x->w.cell? ⟨b,off+j,none⟩=some (.int .u8 x.toNat)):
  (Conv.bytesToString (.slice (some ⟨b,off,none⟩) n c)).run T.P w= .ok (.string (ab l)) w:=by
 have z:(loadCells (⟨b,off,none⟩:Addr) n).run T.P w= .ok (dI l).toArray w:=by
  unfold loadCells;refine pY n 0 (dI l) #[] (by simp [dI,I]) (λj V=>?_) (by simp);have H:j< l.length:=by omega
  rw [hc j l[j] (J2 H)];simp [dI,H]
 have G:∀(l:ay) (s:ByteArray),(l.map λc=>((c.toNat:Int))).foldl (λr n=>r.push (UInt8.ofNat n.toNat)) s=s++ab l:=by
  intro l
  induction l with
  | nil=>intro s;apply ByteArray.ext;simp [ab]
  | cons x l J=>
   intro s;simp only [KE,List.foldl_cons];rw [J];apply ByteArray.ext;simp [ab]
 have hm:(dI l)=(l.map λc=>((c.toNat:Int))).map (Value.int .u8):=by simp [dI]
 have :=run_bytesToString (P:=T.P) w ⟨b,off,none⟩ n c (l.map λc=>((c.toNat:Int))) (by rw [z,hm]);rw [this,G]
 congr 2
theorem xN {l:List Value}(h:l.all oneV=true):∀u∈l,u.oneCell'=true:=by
 intro u hu;have :=LW.1 h u hu;cases u<;>first | rfl | (cases this;done)
theorem vE {P:Program}{w:World}(base:Nat)(t ty e:TypeId)(i:TypeInfo)(z:Value)(ht:P.underlying t=some (.slice e))(hi:P.info? e=some i)(hz:i.zero=some z)
  (v:Value) (n:Nat) (xs:List Value) (I:w.ownsRow base e i.size v n xs) (a:Addr) (m c:Nat) (news:List Value) (W:news.length=m* i.size) (G:∀j u,news[j]?=some u->w.cell? (a.add j)=some u)
  (h1:∀u∈news,u.oneCell'=true) (β:n+m<=maxLen) (H:(n+m)* i.bytes<=140737488355328) {v':Value} {w':World} (hr:(Builtin.append_ #[t,t] ty #[v,.slice (some a) m c]).run P w= .ok v' w'):
  ∀b,v'.ownBlock=some b->v.ownBlock=some b\/w.heap.size<=b:=by
 have α:n+m<=9223372036854775807:=by simp only [maxLen]at β;omega
 intro b hb;rcases I.2 with⟨rfl,rfl⟩ | ⟨g,cap,cur,rfl,_,hg,ε,ζ,γ,δ⟩
 ·by_cases hm:m=0
  ·subst hm;have hn:news=[]:=KD (by simpa using W);subst hn;have V:(Builtin.append_ #[t,t] ty #[.slice none 0 0,.slice (some a) 0 c]).run P w= .ok (.slice none 0 0) w:=by
    simp [Builtin.append_,Mv ht,sizeOf,typeInfo,hi,Builtin.lenOf,Builtin.firstCells,loadCells,loadCellsFrom]
   rw [V]at hr;cases hr;cases hb
  ·have V:=run_append_nil (P:=P) w t ty e i z ht hi hz a m c news W G (by omega) (by omega) (by simp only [KF]at H;omega);rw [V]at hr;cases hr;right;simp only [Value.ownBlock,Lw]at hb;omega
 ·by_cases J:n+m<=cap
  ·have Z:n* i.size+news.length<=cur.size:=by rw [W,γ,<-Nat.add_mul];exact Nat.mul_le_mul_right _ J
   have V:=run_append_room (P:=P) w t ty e i ht hi g n cap cur hg a m c news W G h1 J Z;rw [V]at hr;cases hr;left;exact hb
  ·have holds:∀j u,xs[j]?=some u->w.cell? ((⟨g,0,none⟩:Addr).add j)=some u:=I.cells (g:=g) rfl;have V:=run_append_grow (P:=P) w t ty e i z ht hi hz ⟨g,0,none⟩ n cap xs I.1 holds a m c news W G (by omega) (by omega) (growslice_fits (by omega) H);rw [V]at hr;cases hr;right;simp only [Value.ownBlock,Lw]at hb;omega
theorem zN {t el sz by_:Nat}{z s x:Value}{ty:Nat}(Z:T.und t=some (.slice el))(hi:T.inf el=some (z,sz,by_))(hz:z.cells.size=sz)(h0:0< sz)(h:xD el sz by_ s x w k):
  ∃v w',(Builtin.append_ #[t,t] ty #[s,x]).run T.P w= .ok v w'/\k (.v v) w':=by
 obtain⟨base,n,m,xs,news,G,hb,⟨hl,h1,I⟩,⟨h2,h3⟩,hk⟩:=h;obtain⟨i,H,J,V,W⟩:=T.inf_ok _ _ _ _ hi;rcases I with⟨rfl,rfl⟩ | ⟨b,off,c,rfl,hc⟩
 ·have hn:news=[]:=KD (by simpa using hl);subst hn;refine⟨s,w,run_append_owned_none (P:=T.P) (w:=w) base t ty el i sz (T.und_ok _ _ Z) H s n xs G,?_⟩;exact hk s w (by simpa using G) ⟨rfl,rfl,rfl,Kb _,λ _ _ _=>rfl⟩ λb hb=> .inl hb
 ·obtain⟨v,w',hr,ho,hg,_⟩:=run_append_own (P:=T.P) w base t ty el i z sz by_ (T.und_ok _ _ Z) H J V W hz h0 s n xs G ⟨b,off,none⟩ m c news hl
   (λj u hu=>by rw [add_plain];exact hc j u hu) (xN h1) h2 h3 hb
  refine⟨v,w',hr,hk v w' ho hg ?_⟩;subst V W;exact vE base t ty el i z (T.und_ok _ _ Z) H J s n xs G ⟨b,off,none⟩ m c news hl (λj u hu=>by rw [add_plain];exact hc j u hu) (xN h1) h2 h3 hr
theorem FX {p q:Int}{ts:Array Nat}{ty:Nat}:(Builtin.max_ ts ty #[.int .i64 p,.int .i64 q]).run T.P w= .ok (.int .i64 (if q> p then q else p)) w:=by
 simp [Builtin.max_,Builtin.max2]
theorem Fj {p q:Int}{ts:Array Nat}{ty:Nat}:(Builtin.min_ ts ty #[.int .i64 p,.int .i64 q]).run T.P w= .ok (.int .i64 (if q< p then q else p)) w:=by
 simp [Builtin.min_,Builtin.min2]
theorem ED {p q:ay}{ts:Array Nat}{ty:Nat}:(Builtin.max_ ts ty #[.string (ab p),.string (ab q)]).run T.P w= .ok (.string (ab (if(!Op.bytesLess p q)then p else q))) w:=by
 simp only [Builtin.max_,List.foldlM_cons,List.foldlM_nil,Builtin.max2,Op.stringOp,Kk,Ku,Ka,asBool,nY];split<;>rfl
theorem C1 {p q:ay}{ts:Array Nat}{ty:Nat}:(Builtin.min_ ts ty #[.string (ab p),.string (ab q)]).run T.P w= .ok (.string (ab (if(Op.bytesLess p q||decide (p=q))then p else q))) w:=by
 simp only [Builtin.min_,List.foldlM_cons,List.foldlM_nil,Builtin.min2,Op.stringOp,Kk,Ku,Ka,asBool,nY,jT];split<;>rfl
theorem DN {t:Nat}{c:Call}{val:Value}{xs:List SV}{L:List Kd}{f:Nat}{ca:List Value}(G:aD N e a)(Z:o.op= .call c)(hc:c.callee= .value (.tmp t))(ht:look e t=some (.v val))(hv:val= .func (.func f) #[] ca.toArray)(hf:T.fn f=true)(hx:evs e c.args.toList=some xs)
  (h:Calls T.P f (SV.vals xs++ca).toArray w (ax L (Cur.mk L λW w'=>k (packSV W) w'))):cW T.P o a w k:=by
 intro next Q hn;obtain⟨g,hg,hb,V⟩:=T.fn_ok f hf;have z:c.args.map a.eval=(SV.vals xs).toArray:=by
  apply Ll.1;rw [Le,gV G hx]
 have H:a.eval (.tmp t)= .func (.func f) #[] ca.toArray:=by rw [aE G (x:= .tmp t) ht];exact hv
 have I:(execOp a.eval o).run T.P w= .ok (.enter f (SV.vals xs++ca).toArray) w:=by
  simp only [execOp,Z,resolve,hc,H,z,Deferred.ofValue,Kk,Ku,Ka,invoke,callFunc,run_program,hg,hb,V];simp
 unfold Oper.wp;rw [I,Oper.upon_enter];refine Calls.mono h λe' w' hr=>?_
 obtain⟨W,rfl,J,_⟩:=lP.get _ _ _ _ _ hr;obtain⟨zs,hz,hk⟩:=Cur.zg _ _ _ _ J;have :=hn _ _ hk;simpa [jU hz]using this
end
section
variable {T:gX} {N:Nat} {e:Env} {o:Oper} {a:Act} {w:World} {k:SV->World->Prop}
theorem je {el i:Nat}{cs:Array Value}{v:Value}(h:single (T.und el)=true)(hc:cs[i]?=some v):(part el cs i).run T.P w= .ok v w:=by
 unfold part;simp only [Kk,oK h,Ka,hc];simp
theorem uG {t el W d:Nat}{z G H I J:Value}{b0 b1:Bool}(Z:T.und t=some (.array 2 el))(hi:T.inf el=some (z,1,W))(V:single (T.und el)=true)
  (h0:(Op.equalIn d el G I).run T.P w= .ok b0 w) (h1:(Op.equalIn d el H J).run T.P w= .ok b1 w):(Op.equalIn (d+1) t (.agg #[G,H]) (.agg #[I,J])).run T.P w= .ok (b0&&b1) w:=by
 have p0:∀(a b:Value),(part el #[a,b] 0).run T.P w= .ok a w:=λa b=>je V rfl
 have p1:∀(a b:Value),(part el #[a,b] 1).run T.P w= .ok b w:=λa b=>je V rfl
 cases b0<;>cases b1<;>simp [Op.equalIn,Kk,bE Z,(bH hi w).1,Ka,Ml,List.range',p0,p1,h0,h1,Ku]
theorem BG {t el H d:Nat}{z I J V W:Value}(Z:T.und t=some (.array 2 el))(hi:T.inf el=some (z,1,H))(he:T.und el=some (.int .u32)):(Op.eqGuardIn (d+2) t (.agg #[I,J]) (.agg #[V,W])).run T.P w= .ok false w:=by
 have G:single (T.und el)=true:=by rw [he];rfl
 have p0:∀(a b:Value),(part el #[a,b] 0).run T.P w= .ok a w:=λa b=>je G rfl
 have p1:∀(a b:Value),(part el #[a,b] 1).run T.P w= .ok b w:=λa b=>je G rfl
 have g:∀x y:Value,(Op.eqGuardIn (d+1) el x y).run T.P w= .ok false w:=λx y=>by
  simp [Op.eqGuardIn,Kk,bE he,Ka,Ku]
 unfold Op.eqGuardIn;simp [Kk,bE Z,(bH hi w).1,Ka,Ml,List.range',p0,p1,g,Ku]
structure mu (T:gX)(kt:Nat)(d:TypeDesc):Prop where
 check:∀(w:World) (q:Value) (e:Bool),lM d q->(Instr.checkKey e 10000 kt q).run T.P w= .ok () w
 find:∀(w:World) (q:Value) (l:List MapEntry),lM d q->(∀x∈l,lM d x.key)->((Instr.findKey kt q l).run T.P w= .ok none w/\∀x∈l,x.key≠q)\/∃j x,(Instr.findKey kt q l).run T.P w= .ok (some (j,x.val)) w/\l[j]?=some x/\x.key=q
 stays:∀(w:World) (q:Value),lM d q->(Instr.keyThatStays q q).run T.P w= .ok q w
theorem nL {kt:Nat}{d:TypeDesc}(hd:T.und kt=some d)(G:∀q,lM d q↔MapKept.IsKey d q):mu T kt d:=by
 have z:=T.und_ok _ _ hd;refine⟨λw q e h=>MapKept.run_checkKey z ((G q).1 h) e 9999,λw q l h I=>?_,λw q h=>MapKept.run_keyThatStays ((G q).1 h)⟩;rcases MapKept.findNow_spec ((G q).1 h) l 0 (λx J=>(G _).1 (I x J))with⟨H,h2⟩ | ⟨j,x,H,h2,V⟩
 ·exact .inl ⟨MapKept.run_findKey z H,h2⟩
 ·exact .inr ⟨j,x,by rw [KF]at H;exact MapKept.run_findKey z H,h2,V⟩
theorem yf {kt e W:Nat}{z:Value}(hd:T.und kt=some (.array 2 e))(he:T.und e=some .string)(V:T.inf e=some (z,1,W)){q:Value}(Z:lM (.array 2 e) q):∀(l:List MapEntry) (i:Nat),(∀x∈l,lM (.array 2 e) x.key)->
  ((Instr.findAsking kt q l i).run T.P w= .ok none w/\∀x∈l,x.key≠q)\/∃j x,(Instr.findAsking kt q l i).run T.P w= .ok (some (i+j,x.val)) w/\l[j]?=some x/\x.key=q
 | [],i,_=> .inl ⟨rfl,by simp⟩
 | x::l,i,h=>by
  obtain⟨_,a,b,rfl⟩:=Z;obtain⟨_,c,d,H⟩:=h x (by simp);have hs:single (T.und e)=true:=by rw [he];rfl
  have es:∀(a b:ByteArray) (n:Nat),(Op.equalIn (n+1) e (.string a) (.string b)).run T.P w= .ok (a==b) w:=λa b n=>by
   simp only [Op.equalIn,Kk,bE he,Ka,Ku]
  have eq:(Op.equal kt (.agg #[.string a,.string b]) x.key).run T.P w= .ok ((a==c)&&(b==d)) w:=by
   rw [H];exact uG hd V hs (es _ _ _) (es _ _ _)
  cases hb:((a==c)&&(b==d))with
  | true=>
   rw [hb]at eq;simp only [J3,MapKept.bytes_beq]at hb;exact .inr ⟨0,x,by simp only [Instr.findAsking,Kk,eq,Ka];rfl,rfl,by rw [H,hb.1,hb.2]⟩
  | false=>
   rw [hb]at eq;have I:x.key≠ .agg #[.string a,.string b]:=λe=>by
    rw [H]at e;simp only [Value.agg.injEq,Array.mk.injEq,KW,L8,MG]at e;obtain⟨rfl,rfl⟩:=e;have:((c==c)&&(d==d))=true:=by rw [J3,MapKept.bytes_beq,MapKept.bytes_beq];exact⟨rfl,rfl⟩
    rw [this]at hb;cases hb
   have st:(Instr.findAsking kt (.agg #[.string a,.string b]) (x::l) i).run T.P w=(Instr.findAsking kt (.agg #[.string a,.string b]) l (i+1)).run T.P w:=by
    simp only [Instr.findAsking,Kk,eq,Ka];rfl
   rcases yf hd he V ⟨rfl,a,b,rfl⟩ l (i+1) (λy G=>h y (by simp [G]))with⟨J,h2⟩ | ⟨j,y,J,h2,h3⟩
   ·refine .inl ⟨st.trans J,λy G=>?_⟩;rcases Ks.1 G with rfl | G
    ·exact I
    ·exact h2 y G
   ·exact .inr ⟨j+1,y,by rw [st,J,show i+1+j=i+(j+1) by omega],by simpa using h2,h3⟩
theorem CN {kt e J:Nat}{z:Value}(hd:T.und kt=some (.array 2 e))(he:T.und e=some .string)(H:T.inf e=some (z,1,J)):mu T kt (.array 2 e):=by
 have I:single (T.und e)=true:=by rw [he];rfl
 refine⟨λw q em h=>?_,λw q l h V=>?_,λw q h=>?_⟩
 ·obtain⟨_,a,b,rfl⟩:=h;have W:(part e #[.string a,.string b] 0).run T.P w= .ok (.string a) w:=je I rfl;have Z:(part e #[.string a,.string b] 1).run T.P w= .ok (.string b) w:=je I rfl;have g:∀a:ByteArray,(Instr.checkKey em 9999 e (.string a)).run T.P w= .ok () w:=λa=>by
   show(Instr.checkKey em (9998+1) e (.string a)).run T.P w=_;unfold Instr.checkKey;simp [Kk,bE he,Ka]
  show(Instr.checkKey em (9999+1) kt _).run T.P w=_;unfold Instr.checkKey;simp [Kk,bE hd,(bH H w).1,Ka,Ml,List.range',W,Z,g,Ku]
 ·have fa:(Instr.findKey kt q l).run T.P w=(Instr.findAsking kt q l 0).run T.P w:=by
   unfold Instr.findKey;simp only [Kk,bE hd,Ka];cases l with
   | nil=>rfl
   | cons x l=>rfl
  rw [fa];rcases yf hd he H h l 0 V with G | ⟨j,x,G,h2⟩
  ·exact .inl G
  ·exact .inr ⟨j,x,by rw [KF]at G;exact G,h2⟩
 ·obtain⟨_,a,b,rfl⟩:=h;have:Instr.sameBits 10000 (.agg #[.string a,.string b]) (.agg #[.string a,.string b])=true:=by
   show Instr.sameBits (9999+1) _ _=true;simp [Instr.sameBits,MapKept.bytes_beq]
  simp [Instr.keyThatStays,this]
theorem mh {kt:Nat}{d:TypeDesc}{y:SV}(hd:T.und kt=some d)(h:keyOkT T d y=true):mu T kt d/\lM d y.val:=by
 unfold keyOkT at h;rw [Lm]at h;rcases h with h | h
 ·unfold keyOk at h;split at h
  ·exact⟨nL hd λq=>M5,rfl⟩
  ·exact⟨nL hd λq=>M5,rfl⟩
  ·exact⟨nL hd λq=>M5,trivial⟩
  ·cases h
 ·split at h
  ·split at h
   ·rename_i he z;exact⟨CN hd he z,rfl,_,_,rfl⟩
   ·cases h
  ·cases h
theorem jB {es:List MapEntry}{q:Value}{x:MapEntry}(H:(es.map (·.key)).Nodup)(z:x∈es)(I:x.key=q):cH es q=some x.val:=by
 unfold cH
 induction es with
 | nil=>cases z
 | cons y l J=>
  rw [KE,K7]at H;by_cases G:y.key=q
  ·rw [List.find?_cons_of_pos (by simpa using G)];rcases Ks.1 z with rfl | z
   ·rfl
   ·exfalso;exact H.1 (KQ.2 ⟨x,z,by rw [I,G]⟩)
  ·rw [List.find?_cons_of_neg (by simpa using G)];rcases Ks.1 z with rfl | z
   ·exact absurd I G
   ·exact J H.2 z
theorem ig {es:List MapEntry}{q:Value}(h:∀x∈es,x.key≠q):cH es q=none:=by
 unfold cH;rw [Ny.2 λx z=>by simpa using h x z];rfl
theorem oO (es:List MapEntry)(q:Value):(∃x∈es,x.key=q/\cH es q=some x.val)\/((∀x∈es,x.key≠q)/\cH es q=none):=by
 by_cases h:∀x∈es,x.key≠q
 ·exact .inr ⟨h,ig h⟩
 ·left;unfold cH;cases z:es.find? λx=>@decide (x.key=q) (Classical.propDecidable _)with
  | none=>exact absurd (λx G=>by simpa using Ny.1 z x G) h
  | some x=>
   have H:=LZ z;have h2:=Nv z;exact⟨x,H,by simpa using h2,rfl⟩
theorem yE {t:Nat}:(Instr.makeMap t none).run T.P w= .ok (.map (some w.heap.size)) (w.alloc (.map #[] 0)):=by
 rfl
theorem yK {d:TypeDesc}{es:Array MapEntry}(h:∀x∈es.toList,lM d x.key)(i:Nat)(f:MapEntry->MapEntry)(z:∀e,es[i]?=some e->(f e).key=e.key):∀x∈(es.modify i f).toList,lM d x.key:=by
 intro x G;have:x.key∈(es.modify i f).toList.map (·.key):=KQ.2 ⟨x,G,rfl⟩;rw [MapKept.modify_keys i f z]at this;obtain⟨y,H,e⟩:=KQ.1 this;rw [<-e];exact h y H
theorem oW {r:Nat}{o G:Obj}(hb:w.heap[r]?=some o):bc w {w with heap:=w.heap.setIfInBounds r G} r:=⟨rfl,rfl,rfl,by simp,λb z=>(Nh hb).2 b z⟩
theorem tQ {r clock:Nat}{d:TypeDesc}{q:Value}(z:Value){m:Value->Option Value}{es:Array MapEntry}(hb:w.heap[r]?=some (.map es clock))(hs:MapKept.Stamped es clock)(V:∀x∈es.toList,lM d x.key)(I:∀q,m q=cH es.toList q)(hq:lM d q)(h2:∀x∈es.toList,x.key≠q):
  IsMap {w with heap:=w.heap.setIfInBounds r (.map (es.push {key:=q,val:=z,born:=clock}) (clock+1))} r d (bK m q z):=by
 have H:=MapKept.stamped_push hs h2 (val:=z);refine⟨_,_,(Nh hb).1,H,?_,λp=>?_⟩
 ·intro x G;simp only [M0,Ke,Kf]at G;rcases G with G | rfl
  ·exact V x G
  ·exact hq
 ·rw [M0];unfold bK;by_cases J:p=q
  ·rw [KG J];refine(jB (x:={key:=q,val:=z,born:=clock}) ?_ (by simp) J.symm).symm;have :=H.2.2
   rwa [M0]at this
  ·rw [Ko J,I p];rcases oO es.toList p with⟨x,W,Z,k3⟩ | ⟨W,Z⟩
   ·rw [k3];refine(jB (x:=x) ?_ (by simp [W]) Z).symm;have :=H.2.2
    rwa [M0]at this
   ·rw [Z];refine(ig λx G=>?_).symm;rcases Ke.1 G with G | G
    ·exact W x G
    ·have:x={key:=q,val:=z,born:=clock}:=by simpa using G
     subst this;exact λe=>J e.symm
theorem qL {es:Array MapEntry}{j:Nat}{x:MapEntry}(z:es[j]?=some x){f g:MapEntry->MapEntry}(h:f x=g x):es.modify j f=es.modify j g:=by
 apply Array.ext_getElem?;intro i;rw [L3,L3];split
 ·rename_i e;subst e;rw [z];simp [h]
 ·rfl
theorem jH {r clock j:Nat}{d:TypeDesc}{q:Value}(z:Value){m:Value->Option Value}{es:Array MapEntry}{x:MapEntry}(hb:w.heap[r]?=some (.map es clock))(hs:MapKept.Stamped es clock)(α:∀x∈es.toList,lM d x.key)(Z:∀q,m q=cH es.toList q)(hj:es[j]?=some x)(h3:x.key=q):
  IsMap {w with heap:=w.heap.setIfInBounds r (.map (es.modify j λe=>{e with key:=q,val:=z}) clock)} r d (bK m q z):=by
 have J:∀W,es[j]?=some W->({W with key:=q,val:=z}:MapEntry).key=W.key:=λW I=>by rw [hj]at I;cases I;exact h3.symm
 have V:MapKept.Stamped (es.modify j λe=>{e with key:=q,val:=z}) clock:=MapKept.stamped_modify hs _ _ (λ _ _=>rfl) (λW _ I=>J W I);refine⟨_,_,(Nh hb).1,V,yK α _ _ J,λp=>?_⟩;have γ:j< es.size:=(KO.1 hj).1;have G:∀i,(es.modify j λe=>{e with key:=q,val:=z}).toList[i]?=if i=j then some {x with key:=q,val:=z}else es.toList[i]?:=λi=>by
  rw [LL,L3];by_cases H:j=i
  ·subst H;simp [hj]
  ·simp [H,Ni H]
 unfold bK;by_cases hp:p=q
 ·rw [KG hp];refine(jB (x:={x with key:=q,val:=z}) V.2.2 (L9 (i:=j) (by rw [G,KG rfl])) hp.symm).symm
 ·rw [Ko hp,Z p];rcases oO es.toList p with⟨y,k1,k2,k3⟩ | ⟨k1,k2⟩
  ·rw [k3];obtain⟨i,H,e⟩:=KY.1 k1;have β:i≠j:=λhh=>by
    subst hh;have:es.toList[i]?=some y:=by rw [J2 H,e]
    rw [LL,hj]at this;cases this;exact hp (k2.symm.trans h3)
   refine(jB (x:=y) V.2.2 (L9 (i:=i) (by rw [G,Ko β,J2 H,e])) k2).symm
  ·rw [k2];refine(ig λy hy=>?_).symm;obtain⟨i,H⟩:=List.mem_iff_getElem?.1 hy;rw [G]at H;split at H
   ·cases H;exact λe=>hp e.symm
   ·exact k1 y (L9 H)
theorem ui {t kt et r:Nat}{d:TypeDesc}{q z:Value}{m:Value->Option Value}(hm:T.und t=some (.map kt et))(hd:mu T kt d)(I:lM d q)(h:IsMap w r d m):
  ∃w',(Instr.mapUpdate t (.map (some r)) q z).run T.P w= .ok () w'/\IsMap w' r d (bK m q z)/\bc w w' r:=by
 obtain⟨es,clock,hb,W,H,G⟩:=h;have J:=T.und_ok _ _ hm;rcases hd.find w q es.toList I H with⟨V,h2⟩ | ⟨j,x,V,h2,Z⟩
 ·refine⟨_,?_,tQ z hb W H G I h2,oW hb⟩;simp [Instr.mapUpdate,Mv J,LX hb,hd.check w q _ I,V,Mr _ hb,Result.andThen]
 ·have hj:es[j]?=some x:=by simpa using h2
  refine⟨_,?_,jH z hb W H G hj Z,oW hb⟩;simp [Instr.mapUpdate,Mv J,LX hb,hd.check w q _ I,V,hj,Z,hd.stays w q I,Mr _ hb,Result.andThen]
theorem vM {t kt Z r:Nat}{d:TypeDesc}{q:Value}{m:Value->Option Value}{i:Value×Nat×Nat}(hm:T.und t=some (.map kt Z))(hd:mu T kt d)(hi:T.inf Z=some i)(I:lM d q)(h:IsMap w r d m):
  ∃v0 s w',(Instr.mapEntry t (.map (some r)) q).run T.P w= .ok (.tuple #[v0,.int .i64 s]) w'/\IsMap w' r d (bK m q v0)/\bc w w' r/\nv w' r s q:=by
 obtain⟨es,clock,hb,hs,H,G⟩:=h;obtain⟨z,sz,bb⟩:=i;have J:=T.und_ok _ _ hm;rcases hd.find w q es.toList I H with⟨W,h2⟩ | ⟨j,x,W,h2,h3⟩
 ·refine⟨z,clock,_,?_,tQ z hb hs H G I h2,oW hb,_,_,es.size,{key:=q,val:=z,born:=clock},(Nh hb).1,by simp,rfl,rfl⟩;simp [Instr.mapEntry,Mv J,LX hb,hd.check w q _ I,W,(bH hi w).2,Mr _ hb,Result.andThen,goInt]
 ·have V:es[j]?=some x:=by simpa using h2
  have e:es.modify j (λe=>{e with key:=q})=es.modify j λe=>{e with key:=q,val:=x.val}:=qL V rfl
  refine⟨x.val,x.born,_,?_,jH x.val hb hs H G V h3,oW hb,_,_,j,{x with key:=q,val:=x.val},(Nh hb).1,by simp [L3,V],rfl,rfl⟩;simp [Instr.mapEntry,Mv J,LX hb,hd.check w q _ I,W,V,h3,hd.stays w q I,Mr _ hb,Result.andThen,goInt,e]
theorem tr {t r:Nat}{d:TypeDesc}{q z:Value}{s:Int}{m:Value->Option Value}(h:IsMap w r d m)(he:nv w r s q):
  ∃w',(Instr.entryStore t (.map (some r)) (.int .i64 s) z).run T.P w= .ok () w'/\IsMap w' r d (bK m q z)/\bc w w' r:=by
 obtain⟨es,clock,hb,W,Z,G⟩:=h;obtain⟨β,J,j,x,H,V,hk,rfl⟩:=he;rw [hb]at H;cases H;have e:es.modify j (λe=>{e with val:=z})=es.modify j λe=>{e with key:=q,val:=z}:=qL V (by rw [<-hk])
 have α:j< es.size:=(KO.1 V).1;have I:es[j]=x:=(KO.1 V).2;have hf:es.findIdx? (λe=>(e.born:Int)==(x.born:Int))=some j:=by
  rw [Array.findIdx?_eq_some_iff_getElem];refine⟨α,by simp [I],λi hi=>?_⟩;have γ:=W.2.1;intro hb;have hb:es[i].born=es[j].born:=by
   have:(es[i].born:Int)=x.born:=by simpa using hb
   rw [I];omega
  have h1:(es.toList.map (·.born))[i]'(by simp;omega)=(es.toList.map (·.born))[j]'(by simp;omega):=by simpa using hb
  have :=(List.getElem_inj (((MapKept.stamped_iff es clock).1 W).2.1)).1 h1;omega
 refine⟨_,?_,jH z hb W Z G V hk,oW hb⟩;simp [Instr.entryStore,LX hb,asInt,asIntOf,hf,Mr _ hb,Result.andThen,e]
theorem zx {t kt Z r s sb:Nat}{d:TypeDesc}{q z:Value}{m:Value->Option Value}{ok:Bool}(hm:T.und t=some (.map kt Z))(hd:mu T kt d)(hi:T.inf Z=some (z,s,sb))(J:lM d q)(h:IsMap w r d m)
  {y:Value} {g:Bool} (hg:(g=true/\m q=some y)\/(g=false/\m q=none/\y=z)):
  (Instr.lookup t (.map (some r)) q ok).run T.P w= .ok (if ok then .tuple #[y,.bool g]else y) w:=by
 obtain⟨es,clock,hb,hs,V,G⟩:=h;have H:=T.und_ok _ _ hm;rcases hd.find w q es.toList J V with⟨W,h2⟩ | ⟨j,x,W,h2,h3⟩
 ·have I:m q=none:=by rw [G];exact ig h2
  rcases hg with⟨_,h⟩ | ⟨rfl,_,rfl⟩
  ·rw [I]at h;cases h
  ·simp [Instr.lookup,Mv H,LX hb,hd.check w q _ J,W,(bH hi w).2,Result.andThen]
 ·have I:m q=some x.val:=by rw [G];exact jB hs.2.2 (L9 h2) h3
  rcases hg with⟨rfl,h⟩ | ⟨_,h,_⟩
  ·rw [I]at h;cases h;simp [Instr.lookup,Mv H,LX hb,hd.check w q _ J,W,Result.andThen]
  ·rw [I]at h;cases h
theorem pI {z:Value}(h:oneV z=true):z.cells=#[z]:=by cases z<;>first | rfl | cases h
theorem uu {z:Value}(h:oneV z=true)(n:Nat):(Builtin.zeroCells z.cells n).toList=List.replicate n z:=by
 rw [pI h];unfold Builtin.zeroCells;rw [Le,Array.toList_range];refine MM (by simp) λi G h2=>?_
 simp [Nat.mod_one]
theorem CT {z:Value}(h:oneV z=true)(n:Nat):madeCells z.cells n=(List.replicate n z).toArray:=by
 rw [pI h];unfold madeCells;apply Ll.1;rw [Le,Array.toList_range];refine MM (by simp) λi G h2=>?_
 simp [Nat.mod_one]
theorem ux {t el s:Nat}{n:Int}{z:Value}(H:T.und t=some (.slice el))(I:T.inf el=some (z,1,s))(J:oneV z=true)(W:s<=256)(G:0<=n)(Z:n<=1099511627776):
  (Instr.makeSlice t (.int .i64 n) (.int .i64 n)).run T.P w= .ok (.slice (some ⟨w.heap.size,0,none⟩) n.toNat n.toNat) (w.alloc (.cells (List.replicate n.toNat z).toArray el)):=by
 obtain⟨i,h2,V,h4,h5⟩:=T.inf_ok _ _ _ _ I;have hb:(i.bytes:Int)* n<=256* n:=Int.mul_le_mul_of_nonneg_right (by omega) G;rw [run_make w t el i z (T.und_ok _ _ H) h2 V .i64 .i64 n n G (Int.le_refl _) (by omega) (by omega),h4,KK,CT J]
theorem BI {t el ty n cap b off J:Nat}{z:Value}(H:T.und t=some (.slice el))(V:T.inf el=some (z,1,J))(I:oneV z=true)(hc:∀j,j< n->(∃u,w.cell? ⟨b,off+j,none⟩=some u)/\w.frozen? ⟨b,off+j,none⟩=false):
  (Builtin.clear_ #[t] ty #[.slice (some ⟨b,off,none⟩) n cap]).run T.P w= .ok (.tuple #[]) (World.setCells w b off (List.replicate n z)):=by
 have G:=nP (T:=T) (b:=b) (List.replicate n z) off 0 w (by simp [I]) (by simpa using hc);cases n with
 | zero=>simp [Builtin.clear_,bE H,World.setCells]
 | succ n=>
  simp only [Builtin.clear_,MX,Lh,Kk,bE H,Ka,(bH V w).2,uu I,G,MF,Ku]
theorem zB {t el ty cap:Nat}{z:Option Addr}(G:T.und t=some (.slice el)):(Builtin.clear_ #[t] ty #[.slice z 0 cap]).run T.P w= .ok (.tuple #[]) w:=by
 cases z<;>simp [Builtin.clear_,bE G]
theorem Aa {t n el s b:Nat}{zs:Array Value}(G:T.und t=some (.array n el))(H:T.inf t=some (.agg zs,s,b))(he:(T.inf el).isSome=true):(Instr.build t #[]).run T.P w= .ok (.agg zs) w:=by
 obtain⟨⟨z,J,V⟩,I⟩:=Option.isSome_iff_exists.1 he;simp [Instr.build,(bH H w).2,bE G,(bH I w).1,Instr.fill,Value.cells,Result.andThen]
theorem Am:∀(H:List (Nat×SV)) (zs xs:List SV),(∀x,x∈H->x.2.val.cells=(cellsOf x.2).toArray)->pj zs H=some xs->
  Instr.fill (λi=>some (i* 1,1)) (SV.vals zs).toArray (H.map λp=>(p.1,p.2.val))=some (SV.vals xs).toArray
 | [],zs,xs,_,h=>by cases h;rfl
 | (i,x)::r,zs,xs,z,h=>by
  unfold pj at h;split at h
  ·rename_i hc;split at h
   ·rename_i V;have J:=Am r _ xs (λy W=>z y (Ki _ W)) h;have I:x.val.cells=#[x.val]:=by
     rw [z (i,x) (KR)];cases x<;>first | rfl | (cases hc;done)
    simp only [KE,Instr.fill,I,KK];rw [Ko (by simp [gG];omega)];have G:(#[x.val].zipIdx.foldl (λcs (c,j)=>cs.setIfInBounds (i+j) c) (SV.vals zs).toArray)=(SV.vals (zs.set i x)).toArray:=by
     rw [sn];simp
    rw [G];simp only [KK]at J;exact J
   ·cases h
  ·cases h
theorem xu {t n el s b V:Nat}{z:Value}{zs:Array Value}{H:List (Nat×SV)}{xs:List SV}{parts:Array (Nat×Value)}(W:T.und t=some (.array n el))(Z:T.inf t=some (.agg zs,s,b))(he:T.inf el=some (z,1,V))
  (G:parts.toList=H.map λp=>(p.1,p.2.val)) (I:∀x,x∈H->x.2.val.cells=(cellsOf x.2).toArray) (hb:pj (zs.toList.map svOf) H=some xs):
  (Instr.build t parts).run T.P w= .ok (.agg (SV.vals xs).toArray) w:=by
 have hz:(SV.vals (zs.toList.map svOf)).toArray=zs:=by
  have:∀l:List Value,SV.vals (l.map svOf)=l:=by
   intro l;induction l with
   | nil=>rfl
   | cons v l ih=>simp only [KE,SV.vals,yN,ih]
  rw [this]
 have J:=Am H _ xs I hb;rw [hz]at J;simp only [Instr.build,Kk,(bH Z w).2,Ka,bE W,Value.cells,(bH he w).1,G,J,Ku]
theorem zp {t el V:Nat}{z:Value}{G H I J:UInt32}(W:T.und t=some (.array 2 el))(he:T.und el=some (.int .u32))(Z:T.inf el=some (z,1,V)):
  (binOp .neq t (.agg #[.int .u32 G.toNat,.int .u32 H.toNat]) (.agg #[.int .u32 I.toNat,.int .u32 J.toNat])).run T.P w= .ok (.bool (!(decide (G=I)&&decide (H=J)))) w:=by
 have hs:single (T.und el)=true:=by rw [he];rfl
 have es:∀(a b:UInt32) (n:Nat),(Op.equalIn (n+1) el (.int .u32 a.toNat) (.int .u32 b.toNat)).run T.P w= .ok (decide (a=b)) w:=λa b n=>by
  simp only [Op.equalIn,Kk,bE he,Ka,LN,Ku,Gv]
 have h:(Op.equal t (.agg #[.int .u32 G.toNat,.int .u32 H.toNat]) (.agg #[.int .u32 I.toNat,.int .u32 J.toNat])).run T.P w= .ok (decide (G=I)&&decide (H=J)) w:=
  uG W Z hs (es _ _ _) (es _ _ _)
 simp only [binOp,Kk,h,Ka,Ku]
theorem vL {t el V:Nat}{z G H I J:Value}{W Z:Operand}(ht:T.und t=some (.array 2 el))(he:T.und el=some (.int .u32))(hi:T.inf el=some (z,1,V)):
  (eqGuard .neq t W Z (.agg #[G,H]) (.agg #[I,J])).run T.P w= .ok () w:=by
 have g:(Op.eqGuardIn Op.maxDepth t (.agg #[G,H]) (.agg #[I,J])).run T.P w= .ok false w:=BG (d:=Op.maxDepth - 2) ht hi he;unfold eqGuard;cases hb:T.P.eqGuardType T.P.depth t<;>simp [Kk,run_program,Ka,hb,g]
theorem vk {t el:Nat}(z:T.und t=some (.slice el))(q:Option Addr)(n c:Nat):
  (binOp .eql t (.slice q n c) (.slice none 0 0)).run T.P w= .ok (.bool q.isNone) w/\(binOp .neq t (.slice q n c) (.slice none 0 0)).run T.P w= .ok (.bool (!q.isNone)) w:=by
 have h:(Op.equal t (.slice q n c) (.slice none 0 0)).run T.P w= .ok q.isNone w:=by
  show(Op.equalIn Op.maxDepth t _ _).run T.P w=_;have:Op.maxDepth=(Op.maxDepth - 1)+1:=rfl;rw [this];cases q<;>simp only [Op.equalIn,Kk,bE z,Ka,Ku]<;>rfl
 constructor<;>simp only [binOp,Kk,h,Ka,Ku]
end
theorem pure_run {T:gX}{N:Nat}{e:Env}{o:Oper}{a:Act}{k:SV->Prop}(G:aD N e a)(h:vcPure T e o k):cK T.P o a k:=by
 unfold vcPure at h;split at h
 ·rename_i x I;split at h
  ·exact uW G (.inl I) (by assumption) h
  ·exact h.elim
 ·rename_i x I;split at h
  ·exact uW G (.inr I) (by assumption) h
  ·exact h.elim
 ·rename_i c x y I;split at h
  ·rename_i hc;split at h
   ·exact vB G I (aE G hc) (by simpa using ‹_›) h
   ·exact h.elim
  ·rename_i hc;split at h
   ·exact vB G I (aE G hc) (by simpa using ‹_›) h
   ·exact h.elim
  ·exact h.elim
 ·rename_i op t x y yt I;split at h
  ·rename_i p q H Z;split at h
   ·rename_i z hz;exact dE G I H Z (zO hz) (λw=>Ef hz) h
   ·split at h
    ·rename_i pr z hz;exact dE G I H Z (y5 hz) (λw=>EK hz h.1) h.2
    ·split at h
     ·rename_i J hb hc _ _;exact dE (z:= .b _) G I H Z (uT hb) (by rw [oN hb,oN hc];exact λw=>(sJ J _ _).1) h
     ·rename_i J hb hc _ _;exact dE (z:= .b _) G I H Z (uT hb) (by rw [oN hb,oN hc];exact λw=>(sJ J _ _).2) h
     ·rename_i el J _ _ _ _;split at h
      ·obtain⟨q,rfl,h⟩:=h;exact dE (z:= .b _) G I H Z (λ _=>rfl) (λw=>(rK J q).1) h
      ·exact dE (z:= .ff) G I H Z (λ _=>rfl) (λw=>(rK J (some _)).1) h
      ·exact h.elim
     ·rename_i el J _ _ _ _;split at h
      ·obtain⟨q,rfl,h⟩:=h;exact dE (z:= .b _) G I H Z (λ _=>rfl) (λw=>(rK J q).2) h
      ·exact dE (z:= .tt) G I H Z (λ _=>rfl) (λw=>(rK J (some _)).2) h
      ·exact h.elim
     ·rename_i el J _ _ _ _;split at h
      ·obtain⟨q,n,c,rfl,h⟩:=h;exact dE (z:= .b _) G I H Z (λ _=>rfl) (λw=>(vk J q n c).1) h
      ·exact h.elim
     ·rename_i el J _ _ _ _;split at h
      ·obtain⟨q,n,c,rfl,h⟩:=h;exact dE (z:= .b _) G I H Z (λ _=>rfl) (λw=>(vk J q n c).2) h
      ·exact h.elim
     ·rename_i el J _ _ _ _;split at h
      ·obtain⟨x0,x1,y0,y1,rfl,rfl,h⟩:=h;refine cK.mk _ h λw=>Aj I ?_ ?_
       ·rw [aE G H,aE G Z];exact vL J (by assumption) (by assumption)
       ·rw [aE G H,aE G Z];exact zp J (by assumption) (by assumption)
      ·exact h.elim
     ·exact h.elim
  ·exact h.elim
 ·rename_i op t x I;split at h
  ·rename_i y Z;split at h
   ·rename_i z hz;refine cK.mk _ h λw=>?_
    simp only [execOp,I,aE G Z,Kk,Fy hz,Ka,Ku]
   ·exact h.elim
  ·rename_i n hn;refine cK.mk _ h.2 λw=>?_
   simp only [execOp,I,aE G hn,SV.val,Op.unary,Op.intArith,Kk,Ka,Ku,ke h.1]
  ·exact h.elim
 ·rename_i src dst x I;split at h
  ·rename_i k' c hs hd H;refine cK.mk _ h λw=>?_
   have:IntKind.i64.wrap (c.toNat:Int)=c.toNat:=ke (by have :=c.toNat_lt;unfold aj;omega);simp only [execOp,I,aE G H,SV.val,convert,Kk,bE hs,bE hd,Ka,Conv.intToInt,Ku,this]
  ·rename_i k' n hs hd H;refine cK.mk _ h λw=>?_
   have:IntKind.u8.wrap n=((UInt8.ofNat (n % 256).toNat).toNat:Int):=by
    rw [wrap_u8,K2];omega
   simp only [execOp,I,aE G H,SV.val,convert,Kk,bE hs,bE hd,Ka,Conv.intToInt,Ku,this]
  ·rename_i k' n hs hd H;refine cK.mk _ h.2 λw=>?_
   simp only [execOp,I,aE G H,SV.val,convert,Kk,bE hs,bE hd,Ka,Conv.intToInt,Ku,ke h.1]
  ·rename_i k' c hs hd H;refine cK.mk _ h λw=>?_
   have:IntKind.i32.wrap (c.toNat:Int)=c.toNat:=IntWalk.i32_in _ (by have :=c.toNat_lt;omega);simp only [execOp,I,aE G H,SV.val,convert,Kk,bE hs,bE hd,Ka,Conv.intToInt,Ku,this]
  ·rename_i k' n hs hd H;refine cK.mk _ h.2 λw=>?_
   have:IntKind.i32.wrap n=n:=IntWalk.i32_in _ (by have :=h.1;omega);simp only [execOp,I,aE G H,SV.val,convert,Kk,bE hs,bE hd,Ka,Conv.intToInt,Ku,this]
  ·rename_i k' n hs hd H;refine cK.mk _ h.2 λw=>?_
   simp only [execOp,I,aE G H,SV.val,convert,Kk,bE hs,bE hd,Ka,Conv.intToString,Ku,Ct h.1.1 h.1.2]
  ·exact h.elim
 ·rename_i t x ix I;split at h
  ·rename_i l n J H hn;refine cK.mk _ h.2 λw=>?_
   simp only [execOp,I,aE G H,aE G hn,SV.val,Kk,Fq J h.1.1 h.1.2,Ka,Ku]
  ·exact h.elim
 ·rename_i t x lo hi I;have α:∀{q:Option (Option SV)} {n:Option Int},lo.map (ev e)=q->q=n.map (λm=>some (SV.i m))->lo.map a.eval=nK n:=by
   intro q n V h2;cases lo<;>cases n<;>simp at V h2<;>subst V<;>simp at h2
   ·rfl
   ·simp [nK,aE G h2,SV.val]
  have β:∀{q:Option (Option SV)} {n:Option Int},hi.map (ev e)=q->q=n.map (λm=>some (SV.i m))->hi.map a.eval=nK n:=by
   intro q n V h2;cases hi<;>cases n<;>simp at V h2<;>subst V<;>simp at h2
   ·rfl
   ·simp [nK,aE G h2,SV.val]
  have hs:∀{l:ay} {n m:Option Int},T.und t=some .string->ev e x=some (.s l)->lo.map a.eval=nK n->hi.map a.eval=nK m->0<=n.getD 0->n.getD 0<=m.getD l.length->m.getD l.length<=l.length->
    k (.s ((l.take (m.getD l.length).toNat).drop (n.getD 0).toNat))->cK T.P o a k:=by
   intro l n m J H V h2 h3 h4 h5 hk;refine cK.mk _ hk λw=>?_
   simp only [execOp,I,aE G H,SV.val,V,h2,Option.map_none,Kk,wA J h3 h4 h5,Ka,Ku]
  have hv:∀{el:Nat} {val:Value} {n m:Option Int},T.und t=some (.slice el)->ev e x=some (.v val)->lo.map a.eval=nK n->hi.map a.eval=nK m->vcSlice T el val n m k->cK T.P o a k:=by
   intro el val n m J H V h2 hk;unfold vcSlice at hk;split at hk
   ·exact hk.elim
   ·rename_i z sz b θ;obtain⟨ad,len,cap,rfl,h3,h4,h5,hk⟩:=hk;refine cK.mk _ hk λw=>?_
    simp only [execOp,I,aE G H,SV.val,V,h2,Option.map_none,Kk,yV J θ h3 h4 h5,Ka,Ku]
  split at h
  ·rename_i l J H V h2;refine hs (n:=none) (m:=none) J H (α V rfl) (β h2 rfl) (by simp) (by simp) (by simp) ?_;simpa using h
  ·rename_i l p J H V h2;refine hs (n:=some p) (m:=none) J H (α V rfl) (β h2 rfl) h.1.1 h.1.2 (by simp) ?_;simpa using h.2
  ·rename_i l q J H V h2;refine hs (n:=none) (m:=some q) J H (α V rfl) (β h2 rfl) (by simp) h.1.1 h.1.2 ?_;simpa using h.2
  ·rename_i l p q J H V h2;exact hs (n:=some p) (m:=some q) J H (α V rfl) (β h2 rfl) h.1.1 h.1.2.1 h.1.2.2 h.2
  ·rename_i el val J H V h2;exact hv (n:=none) (m:=none) J H (α V rfl) (β h2 rfl) h
  ·rename_i el val p J H V h2;exact hv (n:=some p) (m:=none) J H (α V rfl) (β h2 rfl) h
  ·rename_i el val q J H V h2;exact hv (n:=none) (m:=some q) J H (α V rfl) (β h2 rfl) h
  ·rename_i el val p q J H V h2;exact hv (n:=some p) (m:=some q) J H (α V rfl) (β h2 rfl) h
  ·exact h.elim
 ·rename_i x i I;split at h
  ·rename_i xs H;split at h
   ·rename_i y Z;refine cK.mk _ h λw=>?_
    have ι:∀(l:List SV) (j:Nat) (z:SV),l[j]?=some z->(SV.vals l)[j]?=some z.val:=by
     intro l
     induction l with
     | nil=>intro j z hz;simp at hz
     | cons p l ih=>intro j z hz;cases j with
      | zero=>simp at hz;subst hz;rfl
      | succ j=>simp at hz;simpa [SV.vals]using ih j z hz
    simp only [execOp,I,aE G H,SV.val,Instr.extract,MX,ι _ _ _ Z,Kk,Ka,Ku]
   ·exact h.elim
  ·exact h.elim
 ·rename_i x I;split at h
  ·rename_i b off H;refine cK.mk _ h λw=>?_
   simp only [execOp,I,aE G H,SV.val,Ku]
  ·rename_i val H;obtain⟨b,off,rfl,h⟩:=h;refine cK.mk _ h λw=>?_
   simp only [execOp,I,aE G H,SV.val,Ku]
  ·exact h.elim
 ·rename_i s x f I;split at h
  ·rename_i fs b off hs H;split at h
   ·rename_i fd hf;split at h
    ·rename_i z sz bb hi;split at h
     ·exact h.elim
     ·rename_i hz;refine cK.mk _ h λw=>?_
      simp only [execOp,I,aE G H,SV.val,Kk,BE hs hf hi hz,Ka,Ku]
    ·exact h.elim
   ·exact h.elim
  ·exact h.elim
 ·rename_i t x ix I;split at h
  ·rename_i el val n J H hn;split at h
   ·rename_i z sz bb hi;obtain⟨b,off,len,cap,rfl,h0,V,h⟩:=h;obtain⟨y,Z,γ⟩:=MN.1 hn;obtain⟨kd,δ⟩:=Ax γ;refine cK.mk _ h λw=>?_
    simp only [execOp,I,aE G H,aE G Z,δ,SV.val,Kk,Cf J hi h0 V,Ka,Ku]
   ·exact h.elim
  ·rename_i len el b off n J H hn;split at h
   ·rename_i z sz bb hi;obtain⟨y,Z,γ⟩:=MN.1 hn;obtain⟨kd,δ⟩:=Ax γ;refine cK.mk _ h.2 λw=>?_
    simp only [execOp,I,aE G H,aE G Z,δ,SV.val,Kk,BA J hi h.1.1 h.1.2,Ka,Ku]
   ·exact h.elim
  ·exact h.elim
 ·rename_i t parts I;split at h
  ·rename_i fs zs s b ps J hi hp;split at h
   ·rename_i η;split at h
    ·rename_i xs hb;obtain⟨ε,h⟩:=iT.get h;have ζ:∀f∈fs.toList,∃z s b,T.inf f.type=some (z,s,b):=by
      intro f hf;have :=LW.1 η f hf;obtain⟨⟨z,s,b⟩,H⟩:=Option.isSome_iff_exists.1 this;exact⟨z,s,b,H⟩
     refine cK.mk _ h λw=>?_
     have W:(parts.map λp=>(p.1,a.eval p.2)).toList=ps.map λp=>(p.1,p.2.val):=by
      rw [Le];exact tW G hp
     have hr:=Cd (w:=w) J hi ζ W ε hb;simp only [execOp,I,Kk];rw [show(Array.map (λx=>match x with | (i,x)=>(i,a.eval x)) parts)=parts.map λp=>(p.1,a.eval p.2)from rfl,hr];simp only [Ka,Ku,SV.val]
    ·exact h.elim
   ·exact h.elim
  ·rename_i n el zs s b J hi hp;split at h
   ·rename_i he;refine cK.mk _ h λw=>?_
    have W:parts.map (λp=>(p.1,a.eval p.2))=#[]:=by
     apply Ll.1;rw [Le,tW G hp];rfl
    simp only [execOp,I,Kk];rw [show(Array.map (λx=>match x with | (i,x)=>(i,a.eval x)) parts)=parts.map λp=>(p.1,a.eval p.2)from rfl,W,Aa J hi he];simp only [Ka,Ku,SV.val]
   ·exact h.elim
  ·rename_i n el zs s b p ps J hi hp;split at h
   ·rename_i z bb he;split at h
    ·rename_i xs hb;obtain⟨ε,h⟩:=iT.get h;refine cK.mk _ h λw=>?_
     have W:(parts.map λp=>(p.1,a.eval p.2)).toList=(p::ps).map λp=>(p.1,p.2.val):=by
      rw [Le];exact tW G hp
     have hr:=xu (w:=w) J hi he W ε hb;simp only [execOp,I,Kk];rw [show(Array.map (λx=>match x with | (i,x)=>(i,a.eval x)) parts)=parts.map λp=>(p.1,a.eval p.2)from rfl,hr];simp only [Ka,Ku,SV.val]
    ·exact h.elim
   ·exact h.elim
  ·exact h.elim
 ·rename_i fn first captured I;split at h
  ·rename_i f ys V h2;refine cK.mk _ h λw=>?_
   have e1:first.map a.eval=#[]:=by
    apply Ll.1;rw [Le,gV G V];rfl
   have e2:captured.map a.eval=(SV.vals ys).toArray:=by
    apply Ll.1;rw [Le,gV G h2]
   simp only [execOp,I,Kk,Instr.makeFunc,e1,e2,Ka,Ku,SV.val]
  ·exact h.elim
 ·rename_i c I;split at h
  ·rename_i hc;have key:∀{t:Nat} {y:SV} {v:Value},c.argTypes[0]?=some t->(c.args[0]?).bind (ev e)=some y->(∀ty w,(Builtin.len_ #[t] ty #[y.val]).run T.P w= .ok v w)->
     ∀w,(execOp a.eval o).run T.P w= .ok (.value v) w:=by
    intro t y v V h2 h3 w;obtain⟨ar,κ,μ⟩:=MN.1 h2;have h4:∀ty,(Builtin.len_ c.argTypes ty (c.args.map a.eval)).run T.P w= .ok v w:=by
     intro ty;rw [<-h3 ty w];have e1:(c.args.map a.eval)[0]?=some y.val:=by rw [Array.getElem?_map,κ];simp [aE G μ]
     simp only [Builtin.len_,V,e1];rfl
    simp only [execOp,I,resolve,hc,Kk,Ku,Ka,invoke,builtin,h4]
   split at h
   ·rename_i t l V h2;split at h
    ·rename_i J;exact cK.mk (.i _) h (key V h2 λty w=>Eh J)
    ·exact h.elim
   ·rename_i t val V h2;split at h
    ·rename_i el J;obtain⟨ad,n,cap,rfl,h⟩:=h;exact cK.mk (.i _) h (key V h2 λty w=>DV J)
    ·exact h.elim
   ·exact h.elim
  ·rename_i hc;split at h
   ·rename_i p q h2;have e2:c.args.map a.eval=#[.int .i64 p,.int .i64 q]:=by apply Ll.1;rw [Le,gV G h2];rfl
    refine cK.mk _ h λw=>?_
    simp only [execOp,I,resolve,hc,Kk,Ku,Ka,invoke,builtin,e2,FX,SV.val]
   ·rename_i p q h2;have e2:c.args.map a.eval=#[.string (ab p),.string (ab q)]:=by apply Ll.1;rw [Le,gV G h2];rfl
    refine cK.mk _ h λw=>?_
    simp only [execOp,I,resolve,hc,Kk,Ku,Ka,invoke,builtin,e2,ED,SV.val]
   ·exact h.elim
  ·rename_i hc;split at h
   ·rename_i p q h2;have e2:c.args.map a.eval=#[.int .i64 p,.int .i64 q]:=by apply Ll.1;rw [Le,gV G h2];rfl
    refine cK.mk _ h λw=>?_
    simp only [execOp,I,resolve,hc,Kk,Ku,Ka,invoke,builtin,e2,Fj,SV.val]
   ·rename_i p q h2;have e2:c.args.map a.eval=#[.string (ab p),.string (ab q)]:=by apply Ll.1;rw [Le,gV G h2];rfl
    refine cK.mk _ h λw=>?_
    simp only [execOp,I,resolve,hc,Kk,Ku,Ka,invoke,builtin,e2,C1,SV.val]
   ·exact h.elim
  ·exact h.elim
 ·exact h.elim
theorem cW.pure {T:gX}{o:Oper}{a:Act}{w:World}{k:SV->World->Prop}(h:cK T.P o a λy=>k y w):cW T.P o a w k:=by
 obtain⟨y,z,hr⟩:=h;exact cW.value (hr w) rfl z
theorem sR {T:gX}{o:Oper}{a:Act}{w:World}{k:SV->World->Prop}{t b off:Nat}{x:Operand}(H:o.op= .load t x)(I:a.eval x= .pointer (some ⟨b,off,none⟩))(h:vcLoadAt T t b off w k):cW T.P o a w k:=by
 unfold vcLoadAt at h;split at h
 ·rename_i G;obtain⟨y,hc,h⟩:=h;refine cW.value (w':=w) ?_ rfl h;simp only [execOp,H,I,Kk,p8 G hc,Ka,Ku]
 ·split at h
  ·rename_i G;split at h
   ·rename_i ks z n W Z J;split at h
    ·rename_i hn;obtain⟨xs,V,hc,h⟩:=EX.get h;refine cW.value (w':=w) ?_ rfl h;simp only [execOp,H,I,SV.val,Kk,jd (cs:=SV.vals xs) (ja G w) J (by rw [gG,V,hn]) (λj hj=>hc.get j (by omega)),Ka,Ku]
    ·exact h.elim
   ·rename_i z n W Z J;obtain⟨cs,V,hc,h⟩:=h;refine cW.value (w':=w) ?_ rfl h;simp only [execOp,H,I,SV.val,Kk,jd (ja G w) J V hc,Ka,Ku]
   ·exact h.elim
  ·exact h.elim
theorem qQ {T:gX}{N:Nat}{e:Env}{o:Oper}{a:Act}{w:World}{k:SV->World->Prop}{t b off:Nat}{x y:Operand}{z:SV}(H:aD N e a)(V:o.op= .store t x y)(W:a.eval x= .pointer (some ⟨b,off,none⟩))(Z:ev e y=some z)(h:vcStoreAt T t b off z w k):cW T.P o a w k:=by
 have many:∀{n I:Nat} {J:Value} {cs:List Value},T.inf t=some (J,n,I)->z.val= .agg cs.toArray->wV w b off n cs k->cW T.P o a w k:=by
  intro n I J cs G hz h;obtain⟨⟨h1,h2,h3⟩,h⟩:=h;refine cW.skip (w':=_) ?_ (h _ rfl);simp only [execOp,V,W,aE H Z,hz,Kk];rw [xT G h1 h2 h3];simp only [Ka,Ku]
 unfold vcStoreAt at h;split at h
 ·rename_i hs;split at h
  ·rename_i J I G;obtain⟨hv,⟨⟨u,hu⟩,hf⟩,h⟩:=oneOk.get h;refine cW.skip (w':=_) ?_ (h _ rfl);simp only [execOp,V,W,aE H Z,Kk,zT G hv hu hf,Ka,Ku]
  ·exact h.elim
 ·split at h
  ·rename_i G;exact many G rfl h
  ·rename_i G;exact many G rfl h
  ·rename_i G;obtain⟨cs,rfl,h⟩:=h;exact many G rfl h
  ·exact h.elim
theorem qO {T:gX}{N:Nat}{e:Env}{o:Oper}{a:Act}{w:World}{k:SV->World->Prop}{t:Nat}{m x y:Operand}(G:aD N e a)
  (J:∀(ρ:Operand->Value) (w w':World),(Instr.mapUpdate t (ρ m) (ρ x) (ρ y)).run T.P w= .ok () w'->(execOp ρ o).run T.P w= .ok .skip w') (h:vcMapUp T e t m x y w k):cW T.P o a w k:=by
 unfold vcMapUp at h;split at h
 ·rename_i kt et val q z hm V W Z;split at h
  ·rename_i d hd;split at h
   ·rename_i I;obtain⟨r,mm,rfl,H,h⟩:=h;obtain⟨w',h1,h2,h3⟩:=ui (z:=z.val) hm (mh hd I).1 (mh hd I).2 H;refine cW.skip (w':=w') (J _ _ _ ?_) (h w' h2 h3);rw [aE G V,aE G W,aE G Z];exact h1
   ·exact h.elim
  ·exact h.elim
 ·exact h.elim
theorem ub {T:gX}{N:Nat}{e:Env}{o:Oper}{a:Act}{w:World}{k:SV->World->Prop}(G:aD N e a)(h:vcOp T e o w k):cW T.P o a w k:=by
 unfold vcOp at h;split at h
 ·rename_i src dst x H;split at h
  ·rename_i el l hs hd V;split at h
   ·rename_i he;obtain⟨cap,w',I,h2,h3⟩:=vO (w:=w) (l:=l) hs hd he;refine cW.value (w':=w') ?_ rfl (h _ cap w' rfl h2 h3);simp only [execOp,H,aE G V,SV.val,Kk,I,Ka,Ku]
   ·exact h.elim
  ·rename_i el val hs hd V;split at h
   ·rename_i he;obtain⟨b,off,n,c,l,rfl,I,h2,h⟩:=h;refine cW.value (w':=w) ?_ rfl h;simp only [execOp,H,aE G V,SV.val,Kk,run_convert_bytes_string (P:=T.P) w src dst el _ _ _ (T.und_ok _ _ hs) (T.und_ok _ _ he) (T.und_ok _ _ hd),uo I h2,Ka,Ku]
   ·exact h.elim
  ·exact cW.pure (pure_run G h)
 ·rename_i t x H;split at h
  ·rename_i b off V;exact sR H (aE G V) h
  ·rename_i val V;obtain⟨b,off,rfl,h⟩:=h;exact sR H (aE G V) h
  ·exact h.elim
 ·rename_i t x y H;split at h
  ·rename_i b off z V Z;exact qQ G H (aE G V) Z h
  ·rename_i val z V Z;obtain⟨b,off,rfl,h⟩:=h;exact qQ G H (aE G V) Z h
  ·exact h.elim
 ·rename_i el H;split at h
  ·rename_i z s b W;refine cW.value (w':=_) ?_ rfl (h _ _ rfl rfl);simp only [execOp,H,Kk,BB W (.tuple #[]),Ka,Ku,SV.val]
  ·exact h.elim
 ·rename_i t H;refine cW.value (w':=_) ?_ rfl (h _ _ rfl rfl);simp only [execOp,H,Option.map_none,Kk,yE,Ka,Ku,SV.val]
 ·rename_i t l c H;split at h
  ·rename_i el n m ht hl hc;split at h
   ·rename_i z s W;split at h
    ·rename_i hz;obtain⟨⟨h0,rfl,I⟩,h⟩:=h;refine cW.value (w':=_) ?_ rfl (h _ _ rfl rfl);simp only [execOp,H,aE G hl,aE G hc,SV.val,Kk,ux ht W hz.1 hz.2 h0 I,Ka,Ku]
    ·exact h.elim
   ·exact h.elim
  ·exact h.elim
 ·rename_i t m x y H;exact qO G (λρ w r h=>by simp only [execOp,H,Kk,h,Ka,Ku]) h
 ·rename_i t m x y H;exact qO G (λρ w r h=>by simp only [execOp,H,Kk,h,Ka,Ku]) h
 ·rename_i t m x H;split at h
  ·rename_i kt et val q hm hv hq;split at h
   ·rename_i d i hd W;split at h
    ·rename_i hk;obtain⟨r,mm,rfl,J,h⟩:=h;obtain⟨v0,s,w',I,h2,h3,h4⟩:=vM hm (mh hd hk).1 W (mh hd hk).2 J;refine cW.value (w':=w') ?_ rfl (h v0 s w' h2 h3 h4);simp only [execOp,H,aE G hv,aE G hq,Kk];rw [show(SV.v (.map (some r))).val= .map (some r)from rfl,I];rfl
    ·exact h.elim
   ·exact h.elim
  ·exact h.elim
 ·rename_i t m s y H;split at h
  ·rename_i val s y hv hs Z;obtain⟨r,d,mm,q,rfl,J,he,h⟩:=h;obtain⟨w',I,h2,h3⟩:=tr (t:=t) (z:=y.val) J he;refine cW.skip (w':=w') ?_ (h w' h2 h3);simp only [execOp,H,aE G hv,aE G hs,aE G Z,Kk];rw [show(SV.v (.map (some r))).val= .map (some r)from rfl,show(SV.i s).val= .int .i64 s from rfl,I];rfl
  ·exact h.elim
 ·rename_i t m x ok H;split at h
  ·rename_i kt et val q hm hv hq;split at h
   ·rename_i d z sb hd W;split at h
    ·rename_i hk;obtain⟨r,mm,rfl,J,y,g,hg,h⟩:=h;have hr:=zx (ok:=ok) hm (mh hd hk).1 W (mh hd hk).2 J hg;refine cW.value (w':=w) ?_ rfl h;simp only [execOp,H,aE G hv,aE G hq,Kk];rw [show(SV.v (.map (some r))).val= .map (some r)from rfl,hr];cases ok<;>simp only [Ka,Ku]<;>rfl
    ·exact h.elim
   ·exact h.elim
  ·exact h.elim
 ·rename_i el x H;split at h
  ·rename_i val Z;split at h
   ·obtain⟨cs,rfl,h⟩:=h;refine cW.value (w':=_) ?_ rfl (h _ _ rfl rfl);simp only [execOp,H,aE G Z,Kk,wQ,Ka,Ku,SV.val];rfl
   ·obtain⟨I,h⟩:=h;refine cW.value (w':=_) ?_ rfl (h _ _ rfl rfl);simp only [execOp,H,aE G Z,Kk,wQ,Ka,Ku,SV.val,pI I]
  ·rename_i y _ Z;obtain⟨hc,h⟩:=Iv.get h;refine cW.value (w':=_) ?_ rfl (h _ _ rfl rfl);simp only [execOp,H,aE G Z,Kk,wQ,Ka,Ku,SV.val,hc]
  ·exact h.elim
 ·rename_i t len parts H;split at h
  ·rename_i el ps ht hp;split at h
   ·rename_i z sz b W;split at h
    ·rename_i hc;split at h
     ·rename_i cs hb;obtain⟨γ,h⟩:=iT.get h;refine cW.value (w':=_) ?_ rfl (h _ _ rfl rfl);have α:(parts.map λp=>(p.1,a.eval p.2)).toList=ps.map λp=>(p.1,p.2.val):=by
       rw [Le];exact tW G hp
      have hr:=zl (w:=w) ht W hc.1 hc.2.1 hc.2.2 α γ hb;simp only [execOp,H,Kk];rw [show(Array.map (λx=>match x with | (i,x)=>(i,a.eval x)) parts)=parts.map λp=>(p.1,a.eval p.2)from rfl,hr];simp only [Ka,Ku,SV.val]
     ·exact h.elim
    ·exact h.elim
   ·exact h.elim
  ·exact h.elim
 ·rename_i c H;split at h
  ·rename_i hc;split at h
   ·rename_i t t' s x I h2;split at h
    ·rename_i δ;subst δ;split at h
     ·rename_i el ht;split at h
      ·rename_i z sz by_ W;split at h
       ·rename_i hz;have e1:c.argTypes=#[t,t]:=by apply Ll.1;rw [I]
        have e2:c.args.map a.eval=#[s,x]:=by apply Ll.1;rw [Le,gV G h2];rfl
        obtain⟨v,w',hr,hk⟩:=zN (ty:=o.type) ht W hz.1 hz.2 h;refine cW.value (w':=w') ?_ rfl hk;simp only [execOp,H,resolve,hc,Kk,Ku,Ka,invoke,builtin,e1,e2,hr,SV.val]
       ·exact h.elim
      ·exact h.elim
     ·exact h.elim
    ·exact h.elim
   ·exact h.elim
  ·rename_i hc;split at h
   ·rename_i t s I h2;split at h
    ·rename_i el ht;split at h
     ·rename_i z sb W;split at h
      ·rename_i hz;obtain⟨ad,n,cap,rfl,h⟩:=h;have e1:c.argTypes=#[t]:=by apply Ll.1;rw [I]
       have e2:c.args.map a.eval=#[.slice ad n cap]:=by apply Ll.1;rw [Le,gV G h2];rfl
       rcases h with⟨rfl,h⟩ | ⟨b,off,rfl,β,h⟩
       ·refine cW.value (w':=w) ?_ rfl h;simp only [execOp,H,resolve,hc,Kk,Ku,Ka,invoke,builtin,e1,e2,zB ht,SV.val,SV.vals]
       ·refine cW.value (w':=_) ?_ rfl (h _ rfl);simp only [execOp,H,resolve,hc,Kk,Ku,Ka,invoke,builtin,e1,e2,BI ht W hz β,SV.val,SV.vals]
      ·exact h.elim
     ·exact h.elim
    ·exact h.elim
   ·exact h.elim
  ·rename_i t hc;split at h
   ·rename_i val xs I h2;obtain⟨f,ca,hv,hf,h⟩:=h;exact DN G H hc I hv hf h2 h
   ·exact h.elim
  ·rename_i f hc;split at h
   ·rename_i hf;split at h
    ·rename_i xs V;exact Cq G H hc hf V h
    ·exact h.elim
   ·exact h.elim
  ·exact cW.pure (pure_run G h)
 ·exact cW.pure (pure_run G h)
def vR (ops:Array Oper)(j:Nat):Option Nat:=(ops[j]?).bind (·.dst)
def bindDst (d:Option Nat)(y:SV)(e:Env):Env:=match d with
 | some d=>(d,y)::e
 | none=>e
def vcOps (T:gX)(all:Array Oper)(K:Env->World->Prop):List Oper->Env->World->Prop
 | [],e,w=>K e w
 | o::r,e,w=>match o.guard with
  | none=>vcOp T e o w λy w'=>vcOps T all K r (bindDst o.dst y e) w'
  | some (j,want)=>match vR all j with
   | none=>False
   | some g=>match look e g,want with
    | some .tt,true=>vcOp T e o w λy w'=>vcOps T all K r (bindDst o.dst y e) w'
    | some .ff,false=>vcOp T e o w λy w'=>vcOps T all K r (bindDst o.dst y e) w'
    | some .tt,false=>vcOps T all K r (bindDst o.dst .un e) w
    | some .ff,true=>vcOps T all K r (bindDst o.dst .un e) w
    | some .un,_=>vcOps T all K r (bindDst o.dst .un e) w
    | some (.b x),true=>
     (x=true->vcOp T ((g,.tt)::e) o w λy w'=>vcOps T all K r (bindDst o.dst y ((g,.tt)::e)) w')/\
     (x=false->vcOps T all K r (bindDst o.dst .un ((g,.ff)::e)) w)
    | some (.b x),false=>
     (x=false->vcOp T ((g,.ff)::e) o w λy w'=>vcOps T all K r (bindDst o.dst y ((g,.ff)::e)) w')/\
     (x=true->vcOps T all K r (bindDst o.dst .un ((g,.tt)::e)) w)
    | _,_=>False
def okOps (N:Nat)(l:List Oper):Bool:=l.all λo=>match o.dst with | some d=>decide (d< N) | none=>true
def rr (l:List Oper):List Nat:=l.filterMap (·.dst)
def dY (ws:List Nat)(a a':Act):Prop:=∀t,t∉ws->a'.tmps.getD t undef=a.tmps.getD t undef
theorem dY.refl (ws:List Nat)(a:Act):dY ws a a:=λ _ _=>rfl
theorem dY.trans {ws:List Nat}{a b c:Act}(h:dY ws a b)(k:dY ws b c):dY ws a c:=λt z=>(k t z).trans (h t z)
theorem dY.mono {ws z:List Nat}{a b:Act}(h:dY ws a b)(G:∀t,t∈ws->t∈z):dY z a b:=λt H=>h t λI=>H (G t I)
theorem dY.put (a:Act)(d:Option Nat)(v:Value)(ws:List Nat)(h:∀x,d=some x->x∈ws):dY ws a (a.put d v):=by
 intro t G;cases d with
 | none=>rfl
 | some d=>
  have z:d≠t:=λe=>G (e▸h d rfl)
  show(a.tmps.setIfInBounds d v).getD t undef=_;simp only [Array.getD,Array.size_setIfInBounds];split
  ·exact Array.getElem_setIfInBounds_ne _ z
  ·rfl
theorem aD.bind {N:Nat}{e:Env}{a:Act}(h:aD N e a){d:Option Nat}(hd:(match d with | some d=>decide (d< N) | none=>true)=true){x:SV}:aD N (bindDst d x e) (a.put d x.val):=by
 cases d with
 | none=>exact h
 | some d=>exact h.put (by simpa using hd) rfl
theorem aD.again {N:Nat}{e:Env}{a:Act}(h:aD N e a){g:Nat}{x y:SV}(H:look e g=some x)(I:x.val=y.val):aD N ((g,y)::e) a:=by
 refine⟨h.1,λt z G=>?_⟩;simp only [look]at G;split at G
 ·rename_i heq;have:g=t:=by simpa using heq
  subst this;cases G;rw [h.2 _ _ H,I]
 ·exact h.2 t z G
theorem wanted_of {N:Nat}{e:Env}{a:Act}(H:aD N e a){all:Array Oper}{o:Oper}{j:Nat}{want:Bool}{g:Nat}{x:SV}(V:o.guard=some (j,want))(J:vR all j=some g)(W:look e g=some x):
  Region.wanted o (yielded all a.tmps)=(match x.val with | .bool b=>b==want | _=>false):=by
 have G:=H.2 _ _ W;unfold vR at J;simp only [Region.wanted,V,yielded,J,Option.bind_some];simp only [Array.getD]at G;split at G
 ·rename_i z;have I:a.tmps[g]?=some x.val:=by rw [Array.getElem?_eq_getElem z];exact Lb some G
  rw [I];cases x.val<;>first | rfl | simp
 ·rename_i z;have:a.tmps[g]?=none:=by simp at z|-;omega
  rw [this,<-G];rfl
theorem qu {T:gX}{N:Nat}{all:Array Oper}{K:Env->World->Prop}{Q:Exit->Act->World->Prop}:∀(l:List Oper) (e:Env) (a:Act) (w:World),aD N e a->okOps N l=true->vcOps T all K l e w->
  (∀e' a' w',K e' w'->aD N e' a'->a'.defers=a.defers->dY (rr l) a a'->Q .normal a' w')->wpList T.P all Q l a w
 | [],e,a,w,z,α,h,hQ=>hQ e a w h z rfl (dY.refl _ _)
 | o::r,e,a,w,z,α,h,hQ=>by
  simp only [okOps,Lg,J3]at α;obtain⟨hd,W⟩:=α;have ε:∀x,o.dst=some x->x∈rr (o::r):=by
   intro x G;simp [rr,G]
  have β:∀t,t∈rr r->t∈rr (o::r):=by
   intro t ht;simp only [rr,List.filterMap_cons]at*;split<;>simp_all
  have γ:∀(v:Value) e' a' w',K e' w'->aD N e' a'->a'.defers=(a.put o.dst v).defers->dY (rr r) (a.put o.dst v) a'->Q .normal a' w':=by
   intro v e' a' w' hk δ ζ η;refine hQ e' a' w' hk δ (ζ.trans ?_) ((dY.put a o.dst v _ ε).trans (η.mono β));cases o.dst<;>rfl
  have run:∀{Z:Env},aD N Z a->(vcOp T Z o w λy w'=>vcOps T all K r (bindDst o.dst y Z) w')->Region.wanted o (yielded all a.tmps)=true->wpList T.P all Q (o::r) a w:=by
   intro Z H h1 hw;unfold wpList;rw [KG hw];left;exact ub H h1 _ _ λy w' hk=>qu r _ _ _ (H.bind hd) W hk (γ y.val)
  have I:∀{Z:Env},aD N Z a->vcOps T all K r (bindDst o.dst .un Z) w->Region.wanted o (yielded all a.tmps)=false->wpList T.P all Q (o::r) a w:=by
   intro Z H h1 hw;unfold wpList;rw [Ko (by rw [hw];simp)];exact qu r _ _ _ (H.bind (x:= .un) hd) W h1 (γ undef)
  unfold vcOps at h;split at h
  ·rename_i J;exact run z h (by simp [Region.wanted,J])
  ·rename_i j want J;split at h
   ·exact h.elim
   ·rename_i g V;split at h
    ·rename_i G;exact run z h (by rw [wanted_of z J V G];rfl)
    ·rename_i G;exact run z h (by rw [wanted_of z J V G];rfl)
    ·rename_i G;exact I z h (by rw [wanted_of z J V G];rfl)
    ·rename_i G;exact I z h (by rw [wanted_of z J V G];rfl)
    ·rename_i G;exact I z h (by rw [wanted_of z J V G];rfl)
    ·rename_i x G;cases x with
     | true=>exact run (z.again (y:= .tt) G rfl) (h.1 rfl) (by rw [wanted_of z J V G];rfl)
     | false=>exact I (z.again (y:= .ff) G rfl) (h.2 rfl) (by rw [wanted_of z J V G];rfl)
    ·rename_i x G;cases x with
     | false=>exact run (z.again (y:= .ff) G rfl) (h.1 rfl) (by rw [wanted_of z J V G];rfl)
     | true=>exact I (z.again (y:= .tt) G rfl) (h.2 rfl) (by rw [wanted_of z J V G];rfl)
    ·exact h.elim
def DD (T:gX)(o:Oper):Bool:=match o.op with
 | .load .. =>false
 | .store .. =>false
 | .alloc .. =>false
 | .box .. =>false
 | .buildSlice .. =>false
 | .makeMap .. =>false
 | .makeSlice .. =>false
 | .mapUpdate .. =>false
 | .insert .. =>false
 | .lookup .. =>false
 | .mapEntry .. =>false
 | .entryStore .. =>false
 | .convert src dst _=>(match T.und src,T.und dst with
  | some .string,some (.slice _)=>false
  | some (.slice _),some .string=>false
  | _,_=>true)
 | .call c=>(match c.callee with
  | .builtin .len=>true
  | .builtin .max=>true
  | .builtin .min=>true
  | _=>false)
 | _=>true
def isLoad (o:Oper):Bool:=match o.op with
 | .load .. =>true
 | _=>false
def vcLoadHAt (T:gX)(t b off:Nat)(S:World->Prop)(k:SV->Prop):Prop:=
 if single (T.und t)then Jt (yh (T.und t)) λy=>(∀w',S w'->w'.cell? ⟨b,off,none⟩=some y.val)/\k y else if wD (T.und t)then
   (match CS T t,T.inf t with
   | some z,some (_,n,_)=>if z.length=n then EX z λxs=>(∀w',S w'->jP w' b off xs)/\k (.ag xs)else False
   | none,some (_,n,_)=>∃cs:List Value,cs.length=n/\(∀w',S w'->∀j,j< n->w'.cell? ⟨b,off+j,none⟩=cs[j]?)/\k (.agl cs)
   | _,_=>False)else False
def vcLoadH (T:gX)(e:Env)(o:Oper)(S:World->Prop)(k:SV->Prop):Prop:=match o.op with
 | .load t x=>(match ev e x with
  | some (.a b off)=>vcLoadHAt T t b off S k
  | some (.v val)=>∃b off,val= .pointer (some ⟨b,off,none⟩)/\vcLoadHAt T t b off S k
  | _=>False)
 | _=>False
def pL (ops:Array Oper)(e:Env)(o:Oper)(run z:Env->Prop):Prop:=match o.guard with
 | none=>run e
 | some (j,want)=>match vR ops j with
  | none=>False
  | some g=>match look e g,want with
   | some .tt,true=>run e
   | some .ff,false=>run e
   | some .tt,false=>z e
   | some .ff,true=>z e
   | some .un,_=>z e
   | some (.b x),true=>(x=true->run ((g,.tt)::e))/\(x=false->z ((g,.ff)::e))
   | some (.b x),false=>(x=false->run ((g,.ff)::e))/\(x=true->z ((g,.tt)::e))
   | _,_=>False
def Bz (X:Nat->Prop):List Nat->Prop
 | []=>True
 | [i]=>X i
 | i::r=>X i/\Bz X r
theorem Bz.get {X:Nat->Prop}:∀{r:List Nat},Bz X r->∀i∈r,X i
 | [],_,i,z=>by cases z
 | [j],h,i,z=>by
  have:i=j:=by simpa using z
  subst this;exact h
 | j::G::r,h,i,z=>by
  cases z with
  | head=>exact h.1
  | tail _ z=>exact Bz.get (r:=G::r) h.2 i z
def F9 (o:Oper):Bool:=match o.op with
 | .store _ _ _=>true
 | _=>false
def HK (ops:Array Oper):Bool:=ops.toList.any F9
def lightAt (T:gX)(ops:Array Oper)(z:Array Bool)(i:Nat):Bool:=match ops[i]? with
 | some o=>(DD T o||(isLoad o&& !HK ops))&&Region.free .any ops z i
 | none=>false
def vcH (T:gX)(ops:Array Oper)(S:World->Prop)(K:Env->World->Prop):Nat->Array Bool->Env->World->Prop
 | 0,z,e,w=>match Region.ready .any ops z with
  | []=>K e w
  | _=>False
 | f+1,z,e,w=>match Region.ready .any ops z with
  | []=>K e w
  | r=>match r.find? (lightAt T ops z)with
   | some i=>(match ops[i]? with
    | some o=>pL ops e o
     (λG=>if isLoad o then vcLoadH T G o S λy=>vcH T ops S K f (z.setIfInBounds i true) (bindDst o.dst y G) w
      else vcPure T G o λy=>vcH T ops S K f (z.setIfInBounds i true) (bindDst o.dst y G) w)
     (λG=>vcH T ops S K f (z.setIfInBounds i true) (bindDst o.dst .un G) w)
    | none=>False)
   | none=>Bz (λi=>match ops[i]? with
    | some o=>pL ops e o
     (λG=>vcOp T G o w λy w'=>S w'/\vcH T ops S K f (z.setIfInBounds i true) (bindDst o.dst y G) w')
     (λG=>vcH T ops S K f (z.setIfInBounds i true) (bindDst o.dst .un G) w)
    | none=>False) r
theorem gj {N:Nat}{ops:Array Oper}{e:Env}{a:Act}{o:Oper}{run V:Env->Prop}{G:Prop}(z:aD N e a)(h:pL ops e o run V)
  (hr:∀W,aD N W a->run W->Region.wanted o (yielded ops a.tmps)=true->G) (Z:∀W,aD N W a->V W->Region.wanted o (yielded ops a.tmps)=false->G):G:=by
 unfold pL at h;split at h
 ·rename_i J;exact hr e z h (by simp [Region.wanted,J])
 ·rename_i j want J;split at h
  ·exact h.elim
  ·rename_i g H;split at h
   ·rename_i I;exact hr e z h (by rw [wanted_of z J H I];rfl)
   ·rename_i I;exact hr e z h (by rw [wanted_of z J H I];rfl)
   ·rename_i I;exact Z e z h (by rw [wanted_of z J H I];rfl)
   ·rename_i I;exact Z e z h (by rw [wanted_of z J H I];rfl)
   ·rename_i I;exact Z e z h (by rw [wanted_of z J H I];rfl)
   ·rename_i x I;cases x with
    | true=>exact hr _ (z.again (y:= .tt) I rfl) (h.1 rfl) (by rw [wanted_of z J H I];rfl)
    | false=>exact Z _ (z.again (y:= .ff) I rfl) (h.2 rfl) (by rw [wanted_of z J H I];rfl)
   ·rename_i x I;cases x with
    | false=>exact hr _ (z.again (y:= .ff) I rfl) (h.1 rfl) (by rw [wanted_of z J H I];rfl)
    | true=>exact Z _ (z.again (y:= .tt) I rfl) (h.2 rfl) (by rw [wanted_of z J H I];rfl)
   ·exact h.elim
theorem qN {T:gX}{a:Act}{o:Oper}{S:World->Prop}{k:SV->Prop}{t b off:Nat}{x:Operand}(H:o.op= .load t x)(I:a.eval x= .pointer (some ⟨b,off,none⟩))(h:vcLoadHAt T t b off S k):
  ∃y,k y/\∀w,S w->(execOp a.eval o).run T.P w= .ok (.value y.val) w:=by
 unfold vcLoadHAt at h;split at h
 ·rename_i G;obtain⟨y,hc,h⟩:=h;refine⟨_,h,λw hw=>?_⟩;simp only [execOp,H,I,Kk,p8 G (hc w hw),Ka,Ku]
 ·split at h
  ·rename_i G;split at h
   ·rename_i ks z n W Z J;split at h
    ·rename_i hn;obtain⟨xs,V,hc,h⟩:=EX.get h;refine⟨_,h,λw hw=>?_⟩;simp only [execOp,H,I,SV.val,Kk,jd (cs:=SV.vals xs) (ja G w) J (by rw [gG,V,hn]) (λj hj=>(hc w hw).get j (by omega)),Ka,Ku]
    ·exact h.elim
   ·rename_i z n W Z J;obtain⟨cs,V,hc,h⟩:=h;refine⟨_,h,λw hw=>?_⟩;simp only [execOp,H,I,SV.val,Kk,jd (ja G w) J V (hc w hw),Ka,Ku]
   ·exact h.elim
  ·exact h.elim
theorem uD {T:gX}{N:Nat}{e:Env}{a:Act}{o:Oper}{S:World->Prop}{k:SV->Prop}(z:aD N e a)(h:vcLoadH T e o S k):
  ∃y,k y/\∀w,S w->(execOp a.eval o).run T.P w= .ok (.value y.val) w:=by
 unfold vcLoadH at h;split at h
 ·rename_i t x H;split at h
  ·rename_i b off G;exact qN H (aE z G) h
  ·rename_i val G;obtain⟨b,off,rfl,h⟩:=h;exact qN H (aE z G) h
  ·exact h.elim
 ·exact h.elim
theorem BK {T:gX}{N:Nat}{ops:Array Oper}{S:World->Prop}{K:Env->World->Prop}{Q0:Exit->Act->World->Prop}(α:Region.noSelect ops=true)(δ:okOps N ops.toList=true)
  (ε:∀c a w,¬Q0 (.panic c) a w):∀(f:Nat) (z:Array Bool) (e:Env) (a:Act) (w:World),aD N e a->S w->vcH T ops S K f z e w->
  (∀e' a' w',K e' w'->aD N e' a'->a'.defers=a.defers->dY (rr ops.toList) a a'->Q0 .normal a' w')->wpAnyH T.P .any ops Q0 S f z a w:=by
 have hd:∀{i:Nat} {o:Oper},ops[i]?=some o->(match o.dst with | some d=>decide (d< N) | none=>true)=true:=by
  intro i o H;have hm:o∈ops.toList:=by
   have :=MY H;simpa using this
  exact LW.1 δ o hm
 have ζ:∀{i:Nat} {o:Oper},ops[i]?=some o->∀x,o.dst=some x->x∈rr ops.toList:=by
  intro i o H x hx;have hm:o∈ops.toList:=by
   have :=MY H;simpa using this
  exact List.mem_filterMap.2 ⟨o,hm,hx⟩
 intro f
 induction f with
 | zero=>
  intro z e a w I W h hQ;unfold vcH at h;split at h
  ·rename_i hr;exact wpAnyH_done hr (hQ e a w h I rfl (dY.refl _ _)) 0
  ·exact h.elim
 | succ f ih=>
  intro z e a w I W h hQ;unfold vcH at h;split at h
  ·rename_i hr;exact wpAnyH_done hr (hQ e a w h I rfl (dY.refl _ _)) _
  ·rename_i η;have next:∀{i:Nat} {o:Oper} (H:ops[i]?=some o) {Z:Env} {y:SV} {w1:World},aD N Z a->S w1->vcH T ops S K f (z.setIfInBounds i true) (bindDst o.dst y Z) w1->
     wpAnyH T.P .any ops Q0 S f (z.setIfInBounds i true) (a.put o.dst y.val) w1:=by
    intro i o H Z y w1 G θ J;refine ih _ _ _ _ (G.bind (hd H)) θ J λe' a' w' V β ι κ=>hQ e' a' w' V β (ι.trans ?_) ((dY.put a o.dst y.val _ (ζ H)).trans κ)
    cases o.dst<;>rfl
   split at h
   ·rename_i i hf;have γ:=LZ hf;have hl:=Nv hf;unfold lightAt at hl;split at h
    ·rename_i o H;rw [H]at hl;simp only [J3]at hl;have take:∀{v:Value},YieldsIf T.P ops S o v a->wpAnyH T.P .any ops Q0 S f (z.setIfInBounds i true) (a.put o.dst v) w->wpAnyH T.P .any ops Q0 S (f+1) z a w:=by
      intro v hy hw;exact wpAnyH_take H α hl.2 (by simpa using γ) (λc a w hq=>absurd hq (ε c _ _)) hy W hw
     refine gj I h (λZ G J hw=>?_) (λZ G J hw=>?_)
     ·split at J
      ·obtain⟨y,V,hr⟩:=uD G J;exact take (.inl ⟨hw,hr⟩) (next H G W V)
      ·obtain⟨y,V,hr⟩:=pure_run G J;exact take (.inl ⟨hw,λw _=>hr w⟩) (next H G W V)
     ·exact take (v:=undef) (.inr ⟨hw,rfl⟩) (next (y:= .un) H G W J)
    ·exact h.elim
   ·refine wpAnyH_all rfl (λh0=>η h0) λi μ=>?_
    have J:=h.get i μ;split at J
    ·rename_i o H;unfold wpOp;simp only [H];refine gj I J (λZ G h2 hw=>?_) (λZ G h2 hw=>?_)
     ·rw [KG hw];left;exact ub G h2 _ _ λy w' V=>⟨V.1,next H G V.1 V.2⟩
     ·rw [Ko (by rw [hw];simp)];exact⟨W,next (y:= .un) H G W h2⟩
    ·exact J.elim
def uN (ops:Array Oper)(j:Nat):Bool:=match ops[j]? with
 | none=>true
 | some z=>(List.range ops.size).any λi=>(match ops[i]? with | some o=>isLoad o | none=>false)&&z.after.toList.all λe=> !(Region.binds .any e)|| !(e.on==i)
theorem xw {ops:Array Oper}{i j:Nat}{z G:Oper}(H:ops[i]?=some z)(I:ops[j]?=some G)(J:isLoad z=true)(V:∀e∈G.after,Region.binds .any e=true->e.on≠i):uN ops j=true:=by
 unfold uN;simp only [I];refine Ma.2 ⟨i,Lz.2 (KO.1 H).1,?_⟩;simp only [H,J,LU];refine LW.2 λe he=>?_
 have :=V e (by simpa using he);cases hb:Region.binds .any e with
 | false=>rfl
 | true=>simp [this hb]
def lj (P:Program)(ops:Array Oper)(lt:Nat->Bool)(Q:Exit->Act->World->Prop)(S:World->Prop):Nat->Array Bool->Act->World->Prop
 | 0,z,a,w=>Region.ready .any ops z=[]/\Q .normal a w
 | fuel+1,z,a,w=>
  (Region.ready .any ops z=[]->Q .normal a w)/\
  ∀i∈Region.ready .any ops z,wpOp P ops Q i (λa' w'=>(if lt i=true then w'=w else uN ops i=true->S w')/\lj P ops lt Q S fuel (z.setIfInBounds i true) a' w') a w
theorem tu {P:Program}{ops:Array Oper}{lt:Nat->Bool}{Q:Exit->Act->World->Prop}{S:World->Prop}:∀(fuel:Nat) (z:Array Bool) (a:Act) (w:World),lj P ops lt Q S fuel z a w->wpAny P .any ops Q fuel z a w
 | 0,_,_,_,h=>h
 | fuel+1,_,_,_,h=>⟨h.1,λi G=>wpOp_mono (λa' w' H=>tu fuel _ a' w' H.2) (h.2 i G)⟩
theorem vQ {P:Program}{ops:Array Oper}{lt:Nat->Bool}{Q:Exit->Act->World->Prop}{S:World->Prop}{i:Nat}{J:Oper}{v:Value}(hi:ops[i]?=some J)(γ:lt i=true)(Z:∀(j:Nat) (o:Oper) cs b,ops[j]?=some o->o.op≠ .select cs b)
  (hQ:∀c a w,Q (.panic c) (a.put J.dst v) w->Q (.panic c) a w):
  ∀(fuel:Nat) (z:Array Bool) (a:Act) (w:World),
   (∀j oj,ops[j]?=some oj->j≠i->z.getD j true=false->(∀e∈oj.after,Region.binds .any e=true->e.on≠i)->J.apart ops oj=true)->
   i∈Region.ready .any ops z->YieldsIf P ops (λw=>isLoad J=true->S w) J v a->(isLoad J=true->S w)->
   lj P ops lt Q S fuel (z.setIfInBounds i true) (a.put J.dst v) w->lj P ops lt Q S (fuel+1) z a w:=by
 intro fuel
 induction fuel with
 | zero=>
  intro z a w _ hr hy hS H;refine⟨λh=>(by rw [h]at hr;cases hr),λj hj=>?_⟩;by_cases G:j=i
  ·subst G;exact hy.wpOp hi hS ⟨by rw [KG γ],H⟩
  ·have :=ready_mono hj G;rw [H.1]at this;cases this
 | succ fuel ih=>
  intro z a w I hr hy hS H;refine⟨λh=>(by rw [h]at hr;cases hr),λj hj=>?_⟩;by_cases G:j=i
  ·subst G;exact hy.wpOp hi hS ⟨by rw [KG γ],H⟩
  ·have h1:=H.2 j (ready_mono hj G);obtain⟨α,oj,V,δ⟩:=mem_ready.1 hj;have β:∀e∈oj.after,Region.binds .any e=true->e.on≠i:=λe he hb heq=>by
    have h1:=δ e he hb;have h0:=(mem_ready.1 hr).1;rw [heq]at h1;rcases LF i z.size with h' | h'
    ·simp [h']at h0 h1;rw [h0]at h1;cases h1
    ·simp [Array.getElem?_eq_none h']at h1
   have h2:=wpOp_putIf V (I j oj V G α β) (λcs b=>Z i J cs b hi) (λcs b=>Z j oj cs b V) hQ hy h1;have W:∀k ok,ops[k]?=some ok->k≠i->(z.setIfInBounds j true).getD k true=false->
     (∀e∈ok.after,Region.binds .any e=true->e.on≠i)->J.apart ops ok=true:=λk ok hk η ε θ=>by
    refine I k ok hk η ?_ θ;by_cases ζ:j=k
    ·subst ζ;exact α
    ·rw [getD_set_ne true ζ]at ε;exact ε
   refine wpOp_mono (λa' w' h3=>?_) h2;have ι:isLoad J=true->S w':=by
    intro hl;have h4:=h3.2.1;split at h4
    ·rw [h4];exact hS hl
    ·exact h4 (xw hi V hl β)
   refine⟨h3.2.1,ih (z.setIfInBounds j true) a' w' W (ready_mono hr (Ni G)) h3.1 ι ?_⟩;rw [Array.setIfInBounds_comm _ _ G];exact h3.2.2
def Cc (T:gX)(ops:Array Oper)(i:Nat):Bool:=match ops[i]? with
 | some o=>DD T o||isLoad o
 | none=>false
def Cw (T:gX)(ops:Array Oper)(S:World->Prop)(K:Env->World->Prop):Nat->Array Bool->Env->World->Prop
 | 0,z,e,w=>match Region.ready .any ops z with
  | []=>K e w
  | _=>False
 | f+1,z,e,w=>match Region.ready .any ops z with
  | []=>K e w
  | r=>match r.find? (λi=>Cc T ops i&&Region.free .any ops z i)with
   | some i=>(match ops[i]? with
    | some o=>pL ops e o
     (λG=>if isLoad o then vcLoadH T G o S λy=>Cw T ops S K f (z.setIfInBounds i true) (bindDst o.dst y G) w
      else vcPure T G o λy=>Cw T ops S K f (z.setIfInBounds i true) (bindDst o.dst y G) w)
     (λG=>Cw T ops S K f (z.setIfInBounds i true) (bindDst o.dst .un G) w)
    | none=>False)
   | none=>Bz (λi=>match ops[i]? with
    | some o=>if Cc T ops i then False else pL ops e o
     (λG=>vcOp T G o w λy w'=>if uN ops i then S w'/\Cw T ops S K f (z.setIfInBounds i true) (bindDst o.dst y G) w' else Cw T ops S K f (z.setIfInBounds i true) (bindDst o.dst y G) w')
     (λG=>if uN ops i then S w/\Cw T ops S K f (z.setIfInBounds i true) (bindDst o.dst .un G) w else Cw T ops S K f (z.setIfInBounds i true) (bindDst o.dst .un G) w)
    | none=>False) r
def Ce (ops:Array Oper)(S:World->Prop)(z:Array Bool)(w:World):Prop:=∀l ol,ops[l]?=some ol->isLoad ol=true->z.getD l true=false->S w
theorem Ce.less {ops:Array Oper}{S:World->Prop}{z:Array Bool}{w:World}(h:Ce ops S z w)(j:Nat):Ce ops S (z.setIfInBounds j true) w:=by
 intro l ol J h2 H;refine h l ol J h2 ?_;by_cases G:j=l
 ·subst G;rcases LF j z.size with I | I
  ·simp [Array.getD,I]at H
  ·simp [Array.getD,Nat.not_lt.2 I]at H
 ·rw [getD_set_ne true G]at H;exact H
theorem B1 {T:gX}{N:Nat}{ops:Array Oper}{S:World->Prop}{K:Env->World->Prop}{Q0:Exit->Act->World->Prop}(β:Region.noSelect ops=true)(ι:okOps N ops.toList=true)
  (κ:∀c a w,¬Q0 (.panic c) a w):∀(f:Nat) (z:Array Bool) (e:Env) (a:Act) (w:World),aD N e a->Ce ops S z w->Cw T ops S K f z e w->
  (∀e' a' w',K e' w'->aD N e' a'->a'.defers=a.defers->dY (rr ops.toList) a a'->Q0 .normal a' w')->lj T.P ops (Cc T ops) Q0 S f z a w:=by
 have hd:∀{i:Nat} {o:Oper},ops[i]?=some o->(match o.dst with | some d=>decide (d< N) | none=>true)=true:=by
  intro i o H;have hm:o∈ops.toList:=by
   have :=MY H;simpa using this
  exact LW.1 ι o hm
 have μ:∀{i:Nat} {o:Oper},ops[i]?=some o->∀x,o.dst=some x->x∈rr ops.toList:=by
  intro i o H x hx;have hm:o∈ops.toList:=by
   have :=MY H;simpa using this
  exact List.mem_filterMap.2 ⟨o,hm,hx⟩
 intro f
 induction f with
 | zero=>
  intro z e a w J hS h hQ;unfold Cw at h;split at h
  ·rename_i hr;exact⟨hr,hQ e a w h J rfl (dY.refl _ _)⟩
  ·exact h.elim
 | succ f ih=>
  intro z e a w J hS h hQ;unfold Cw at h;split at h
  ·rename_i hr;exact⟨λ _=>hQ e a w h J rfl (dY.refl _ _),λi H=>by rw [hr]at H;cases H⟩
  ·rename_i ν;have next:∀{i:Nat} {o:Oper} (H:ops[i]?=some o) {e1:Env} {y:SV} {w1:World},aD N e1 a->Ce ops S (z.setIfInBounds i true) w1->Cw T ops S K f (z.setIfInBounds i true) (bindDst o.dst y e1) w1->
     lj T.P ops (Cc T ops) Q0 S f (z.setIfInBounds i true) (a.put o.dst y.val) w1:=by
    intro i o H e1 y w1 G ξ I;refine ih _ _ _ _ (G.bind (hd H)) ξ I λe' a' w' V γ ο ς=>hQ e' a' w' V γ (ο.trans ?_) ((dY.put a o.dst y.val _ (μ H)).trans ς)
    cases o.dst<;>rfl
   split at h
   ·rename_i i hf;have Z:=LZ hf;have hl:=Nv hf;simp only [J3]at hl;split at h
    ·rename_i o H;have υ:isLoad o=true->S w:=λα=>hS i o H α (mem_ready.1 Z).1
     have take:∀{v:Value},YieldsIf T.P ops (λw=>isLoad o=true->S w) o v a->lj T.P ops (Cc T ops) Q0 S f (z.setIfInBounds i true) (a.put o.dst v) w->lj T.P ops (Cc T ops) Q0 S (f+1) z a w:=by
      intro v hy hw;exact vQ H hl.1 (Region.noSelect_spec β) (λc a w hq=>absurd hq (κ c _ _)) f z a w (Region.free_spec H hl.2) Z hy υ hw
     refine gj J h (λe1 G I hw=>?_) (λe1 G I hw=>?_)
     ·split at I
      ·rename_i α;obtain⟨y,V,hr⟩:=uD G I;exact take (.inl ⟨hw,λw hs=>hr w (hs α)⟩) (next H G (hS.less i) V)
      ·obtain⟨y,V,hr⟩:=pure_run G I;exact take (.inl ⟨hw,λw _=>hr w⟩) (next H G (hS.less i) V)
     ·exact take (v:=undef) (.inr ⟨hw,rfl⟩) (next (y:= .un) H G (hS.less i) I)
    ·exact h.elim
   ·refine⟨λh0=>absurd h0 (λh0=>ν h0),λi δ=>?_⟩;have I:=h.get i δ;split at I
    ·rename_i o H;split at I
     ·exact I.elim
     ·rename_i ε;obtain⟨_,oi,ζ,η⟩:=mem_ready.1 δ;rw [H]at ζ;cases ζ;unfold wpOp;simp only [H];refine gj J I (λe1 G h2 hw=>?_) (λe1 G h2 hw=>?_)
      ·rw [KG hw];left;refine ub G h2 _ _ λy w' V=>?_
       rw [Ko ε];have inv:(uN ops i=true->S w')->Ce ops S (z.setIfInBounds i true) w':=by
        intro hs l ol k1 k2 k3;refine hs (xw k1 H k2 λe he hb heq=>?_);have h4:=η e he hb;rw [heq]at h4;by_cases θ:i=l
        ·subst θ;rcases LF i z.size with h' | h'
         ·simp [Array.getD,h']at k3
         ·simp [Array.getD,Nat.not_lt.2 h']at k3
        ·rw [getD_set_ne true θ]at k3;rcases LF l z.size with h' | h'
         ·simp [Array.getD,h']at k3 h4;rw [k3]at h4;cases h4
         ·simp [Array.getD,Nat.not_lt.2 h']at k3
       split at V
       ·exact⟨λ _=>V.1,next H G (inv λ _=>V.1) V.2⟩
       ·rename_i W;exact⟨λhh=>absurd hh W,next H G (inv λhh=>absurd hh W) V⟩
      ·rw [Ko (by rw [hw];simp),Ko ε];split at h2
       ·exact⟨λ _=>h2.1,next (y:= .un) H G (hS.less i) h2.2⟩
       ·rename_i W;exact⟨λhh=>absurd hh W,next (y:= .un) H G (hS.less i) h2⟩
    ·exact I.elim
inductive XE where
 | normal | exit (id:Nat) | ret
def XE.toExit:XE->Exit
 | .normal=> .normal | .exit id=> .exit id | .ret=> .ret
def rid:Code->Nat
 | .region id _ _=>id
 | .seq a _=>rid a
 | .cond _ a _=>rid a
 | .block _ c=>rid c
 | .loop c=>rid c
 | _=>1000000
def writes:Code->List Nat
 | .region _ ops _=>rr ops.toList
 | .seq a b=>writes a++writes b
 | .cond _ a b=>writes a++writes b
 | .block _ c=>writes c
 | .loop c=>writes c
 | _=>[]
def gW (N:Nat):Code->Bool
 | .region _ ops _=>okOps N ops.toList
 | .seq a b=>gW N a&&gW N b
 | .cond _ a b=>gW N a&&gW N b
 | .block _ c=>gW N c
 | .loop c=>gW N c
 | _=>true
structure IN where
 loops:Nat->Option (List (Nat×Kd))
 cuts:Nat->Option (List (Nat×Kd))
 late:Nat->Bool
def zU (L:List (Nat×Kd)):List Kd:=L.map (·.2)
def valsOf (e:Env):List (Nat×Kd)->Option (List SV)
 | []=>some []
 | (t,_)::L=>match look e t,valsOf e L with
  | some x,some xs=>some (x::xs)
  | _,_=>none
def zipE:List (Nat×Kd)->List SV->Env
 | (t,_)::L,x::xs=>(t,x)::zipE L xs
 | _,_=>[]
def u9 (ws:List Nat)(e:Env):Env:=e.filter λp=> !ws.contains p.1
abbrev CurN:List Kd->Type
 | []=>World->Nat
 | k::L=>k.T->CurN L
def CurN.app:(L:List Kd)->CurN L->List SV->World->Nat
 | [],m,_,w=>m w
 | k::L,m,x::xs,w=>match k.un x with
  | some t=>CurN.app L (m t) xs w
  | none=>0
 | _::_,_,[],_=>0
def appE (L:List (Nat×Kd))(R:Cur (zU L))(e:Env)(w:World):Prop:=match valsOf e L with
 | some xs=>Cur.app (zU L) R xs w
 | none=>False
def vc (T:gX)(A:IN):Code->Env->World->(XE->Env->World->Prop)->Prop
 | .skip,e,w,Q=>Q .normal e w
 | .region _ ops false,e,w,Q=>vcOps T ops (λz w'=>Q .normal z w') ops.toList e w
 | .region id ops true,e,w,Q=>if Region.noSelect ops=true then
   if A.late id then ∃S:World->Prop,∀w1,w1=w.drew->S w1/\Cw T ops S (λz w'=>Q .normal z w') ops.size (Array.replicate ops.size false) e w1
   else ∃S:World->Prop,∀w1,w1=w.drew->S w1/\vcH T ops S (λz w'=>Q .normal z w') ops.size (Array.replicate ops.size false) e w1
  else False
 | .seq a b,e,w,Q=>match A.cuts (rid b)with
  | none=>vc T A a e w λx z w'=>match x with
   | .normal=>vc T A b z w' Q
   | x=>Q x z w'
  | some L=>∃J:Cur (zU L),(vc T A a e w λx z w'=>match x with
    | .normal=>appE L J z w'
    | x=>Q x z w')/\Ch (zU L) λxs=>∀w',Cur.app (zU L) J xs w'->vc T A b (zipE L xs++u9 (writes a) e) w' Q
 | .cond c a b,e,w,Q=>match ev e c with
  | some .tt=>vc T A a e w Q
  | some .ff=>vc T A b e w Q
  | some (.b x)=>(x=true->vc T A a e w Q)/\(x=false->vc T A b e w Q)
  | _=>False
 | .block id c,e,w,Q=>vc T A c e w λx z w'=>match x with
  | .exit i=>if i=id then Q .normal z w' else Q (.exit i) z w'
  | x=>Q x z w'
 | .loop c,e,w,Q=>match A.loops (rid c)with
  | none=>False
  | some L=>∃(I:Cur (zU L)) (m:CurN (zU L)),appE L I e w/\Ch (zU L) λxs=>∀w',Cur.app (zU L) I xs w'->
    vc T A c (zipE L xs++u9 (writes c) e) w' λx G w''=>match x with
     | .normal=>appE L I G w''/\(match valsOf G L with | some H=>CurN.app (zU L) m H w''< CurN.app (zU L) m xs w' | none=>False)
     | x=>Q x G w''
 | .exit id,e,w,Q=>Q (.exit id) e w
 | .ret,e,w,Q=>Q .ret e w
 | _,_,_,_=>False
inductive RI where
 | tmp (slot:Nat) (k:Kd)
 | cell (slot t:Nat) (k:Kd)
 | agg (slot t:Nat)
def RI.kd:RI->Kd
 | .tmp _ k=>k
 | .cell _ _ k=>k
 | .agg _ _=> .v
def RI.rv:RI->ResultVar
 | .tmp s _=> .tmp s
 | .cell s t _=> .cell s t
 | .agg s t=> .cell s t
def pK (L:List RI):List Kd:=L.map RI.kd
def finR (T:gX):(L:List RI)->Cur (pK L)->Env->World->Prop
 | [],R,_,w=>R w
 | .tmp s k::L,R,e,w=>match (look e s).bind k.un with
  | some t=>finR T L (R t) e w
  | none=>False
 | .cell s t k::L,R,e,w=>match look e s,single (T.und t)with
  | some (.a b off),true=>∃x:k.T,w.cell? ⟨b,off,none⟩=some (k.sv x).val/\finR T L (R x) e w
  | _,_=>False
 | .agg s t::L,R,e,w=>match look e s,wD (T.und t)with
  | some (.a b off),true=>(match CS T t,T.inf t with
   | some z,some (_,n,_)=>if z.length=n then EX z λxs=>jP w b off xs/\finR T L (R (.agg (SV.vals xs).toArray)) e w else False
   | none,some (_,n,_)=>∃cs:List Value,cs.length=n/\(∀j,j< n->w.cell? ⟨b,off+j,none⟩=cs[j]?)/\finR T L (R (.agg cs.toArray)) e w
   | _,_=>False)
  | _,_=>False
def fin (T:gX)(L:List RI)(R:Cur (pK L)):XE->Env->World->Prop
 | .exit _,_,_=>False
 | _,e,w=>finR T L R e w
def Kd.dec:(k:Kd)->Value->k.T
 | .i,.int _ n=>n
 | .i,_=>0
 | .c,.int _ n=>UInt8.ofNat n.toNat
 | .c,_=>0
 | .w,.int _ n=>UInt32.ofNat n.toNat
 | .w,_=>0
 | .s,.string str=>str.data.toList
 | .s,_=>[]
 | .b,.bool z=>z
 | .b,_=>false
 | .v,x=>x
theorem Kd.HE (k:Kd)(t:k.T):k.dec (k.sv t).val=t:=by
 cases k
 ·rfl
 ·show UInt8.ofNat ((t.toNat:Int)).toNat=t;simp
 ·show UInt32.ofNat ((t.toNat:Int)).toNat=t;simp
 ·show(ab t).data.toList=t;simp [ab]
 ·rfl
 ·rfl
theorem Kd.DW (k:Kd)(t:k.T):k.un (k.sv t)=some t:=by cases k<;>rfl
def Typed:List Kd->List SV->Prop
 | [],[]=>True
 | k::L,x::xs=>(∃t:k.T,x=k.sv t)/\Typed L xs
 | _,_=>False
theorem Ch.get:∀{L:List Kd} {K:List SV->Prop},Ch L K->∀{xs:List SV},Typed L xs->K xs
 | [],K,h,[],_=>h
 | [],K,h,_::_,z=>z.elim
 | k::L,K,h,[],z=>z.elim
 | k::L,K,h,x::xs,z=>by
  obtain⟨⟨t,G⟩,z⟩:=z;subst G;exact Ch.get (h t) z
theorem canon:∀{L:List Kd} {R:Cur L} {xs:List SV} {w:World},Cur.app L R xs w->
  ∃zs,Typed L zs/\SV.vals zs=SV.vals xs/\Cur.app L R zs w/\∀(m:CurN L) (w':World),CurN.app L m zs w'=CurN.app L m xs w'
 | [],R,[],w,h=>⟨[],trivial,rfl,h,λ _ _=>rfl⟩
 | [],R,_::_,w,h=>h.elim
 | k::L,R,[],w,h=>h.elim
 | k::L,R,x::xs,w,h=>by
  simp only [Cur.app]at h;split at h
  ·rename_i t z;obtain⟨zs,G,h2,H,h4⟩:=canon h;refine⟨k.sv t::zs,⟨⟨t,rfl⟩,G⟩,by simp [SV.vals,h2,Kd.zL z],?_,λm w'=>?_⟩
   ·simp only [Cur.app,Kd.DW];exact H
   ·simp only [CurN.app,Kd.DW,z];exact h4 _ _
  ·exact h.elim
def Reads (a:Act):List (Nat×Kd)->List SV->Prop
 | [],[]=>True
 | (t,_)::L,x::xs=>a.tmps.getD t undef=x.val/\Reads a L xs
 | _,_=>False
theorem Reads.rI {N:Nat}{e:Env}{a:Act}(z:aD N e a):∀{L:List (Nat×Kd)} {xs:List SV},valsOf e L=some xs->Reads a L xs
 | [],xs,h=>by cases h;trivial
 | (t,k)::L,xs,h=>by
  unfold valsOf at h;split at h
  ·rename_i x H G h2;cases h;exact⟨z.2 _ _ G,Reads.rI z h2⟩
  ·cases h
theorem Reads.congr {a:Act}:∀{L:List (Nat×Kd)} {xs z:List SV},Reads a L xs->SV.vals z=SV.vals xs->Reads a L z
 | [],[],[],_,_=>trivial
 | [],[],_::_,_,h=>by simp [SV.vals]at h
 | _::_,[],_,h,_=>h.elim
 | [],_::_,_,h,_=>h.elim
 | (t,k)::L,x::xs,[],_,h=>by simp [SV.vals]at h
 | (t,k)::L,x::xs,y::z,⟨G,h2⟩,h=>by
  simp only [SV.vals,KW]at h;exact⟨G.trans h.1.symm,Reads.congr h2 h.2⟩
theorem aD.zip {N:Nat}{e:Env}{a:Act}(z:aD N e a):∀{L:List (Nat×Kd)} {xs:List SV},Reads a L xs->aD N (zipE L xs++e) a
 | [],[],_=>z
 | [],_::_,h=>h.elim
 | _::_,[],h=>h.elim
 | (t,k)::L,x::xs,⟨H,h2⟩=>by
  have I:=aD.zip z h2;refine⟨z.1,λu y G=>?_⟩;simp only [zipE,K4,look]at G;split at G
  ·rename_i heq;have:t=u:=by simpa using heq
   subst this;cases G;exact H
  ·exact I.2 u y G
theorem qm {ws:List Nat}{t:Nat}:∀{e:Env} {x:SV},look (u9 ws e) t=some x->t∉ws/\look e t=some x
 | [],x,h=>by simp [u9,look]at h
 | (u,y)::e,x,h=>by
  unfold u9 at h;rw [Nj]at h;split at h
  ·rename_i hu;simp only [look]at h|-;split at h
   ·rename_i heq;have:u=t:=by simpa using heq
    subst this;refine⟨by simpa using hu,?_⟩;rw [KG heq];exact h
   ·rename_i heq;have :=qm (e:=e) h;exact⟨this.1,by rw [Ko heq];exact this.2⟩
  ·rename_i hu;have :=qm (e:=e) h;refine⟨this.1,?_⟩;simp only [look];have z:u∈ws:=by simpa using hu
   have G:u≠t:=λhe=>this.1 (he▸z)
   rw [Ko (by simpa using G)];exact this.2
theorem aD.vJ {N:Nat}{e:Env}{a a':Act}{ws:List Nat}(z:aD N e a)(G:dY ws a a')(H:a'.tmps.size=N):aD N (u9 ws e) a':=
 ⟨H,λt x I=>by obtain⟨J,h2⟩:=qm I;rw [G t J];exact z.2 t x h2⟩
def decs (a:Act):List (Nat×Kd)->List SV
 | []=>[]
 | (t,k)::L=>k.sv (k.dec (a.tmps.getD t undef))::decs a L
theorem wH {a:Act}:∀{L:List (Nat×Kd)} {xs:List SV},Typed (zU L) xs->Reads a L xs->decs a L=xs
 | [],[],_,_=>rfl
 | [],_::_,_,h=>h.elim
 | _::_,[],_,h=>h.elim
 | (t,k)::L,x::xs,⟨⟨y,z⟩,G⟩,⟨H,h2⟩=>by
  simp only [decs];rw [wH G h2,H,z,Kd.HE]
theorem Ds {T:gX}{A:IN}{N:Nat}:∀(c:Code) (e:Env) (a:Act) (w:World) (Q:XE->Env->World->Prop) (Q':Exit->Act->World->Prop),
  aD N e a->gW N c=true->vc T A c e w Q->
  (∀x W a' w',Q x W w'->aD N W a'->a'.defers=a.defers->dY (writes c) a a'->Q' x.toExit a' w')->c.wp T.P Q' a w:=by
 intro c
 induction c with
 | skip=>intro e a w Q Q' G _ h V;exact wp_skip (V .normal e a w h G rfl (dY.refl _ _))
 | exit id=>intro e a w Q Q' G _ h V;exact wp_exit (V (.exit id) e a w h G rfl (dY.refl _ _))
 | ret=>intro e a w Q Q' G _ h V;exact wp_ret (V .ret e a w h G rfl (dY.refl _ _))
 | region id ops draw=>
  intro e a w Q Q' G H h V;cases draw with
  | true=>
   unfold vc at h;split at h
   ·rename_i ζ;split at h
    ·obtain⟨S,h⟩:=h;obtain⟨hS,h⟩:=h _ rfl;have Z:(Code.region id ops true).wp T.P (λx a' w'=>x= .normal/\Q' .normal a' w') a w:=by
      refine wp_region_any T.mixed (tu _ _ _ _ (B1 ζ H (λc a w hq=>by cases hq.1) ops.size _ e a _ G (λ _ _ _ _ _=>hS) h λW a' w' hk α hd hs=>⟨rfl,V .normal W a' w' hk α hd hs⟩))
     refine wp_mono Z λx a' w' hx=>?_
     obtain⟨rfl,hx⟩:=hx;exact hx
    obtain⟨S,h⟩:=h;obtain⟨hS,h⟩:=h _ rfl;have Z:(Code.region id ops true).wp T.P (λx a' w'=>x= .normal/\Q' .normal a' w') a w:=by
     refine wp_region_held (S:=S) T.mixed (BK ζ H (λc a w hq=>by cases hq.1) ops.size _ e a _ G hS h λW a' w' hk α hd hs=>⟨rfl,V .normal W a' w' hk α hd hs⟩)
    refine wp_mono Z λx a' w' hx=>?_
    obtain⟨rfl,hx⟩:=hx;exact hx
   ·exact h.elim
  | false=>exact wp_region_list (qu _ _ _ _ G H h λW a' w' hk α hd hs=>V .normal W a' w' hk α hd hs)
 | cond c x y β γ=>
  intro e a w Q Q' G H h V;simp only [gW,J3]at H;have gx:vc T A x e w Q->x.wp T.P Q' a w:=λh=>β e a w Q Q' G H.1 h λz W a' w' hz Z h2 h3=>V z W a' w' hz Z h2 (h3.mono λt ht=>by simp [writes,ht])
  have gy:vc T A y e w Q->y.wp T.P Q' a w:=λh=>γ e a w Q Q' G H.2 h λz W a' w' hz Z h2 h3=>V z W a' w' hz Z h2 (h3.mono λt ht=>by simp [writes,ht])
  unfold vc at h;split at h
  ·rename_i hc;exact wp_cond_true (aE G hc) (gx h)
  ·rename_i hc;exact wp_cond_false (aE G hc) (gy h)
  ·rename_i b hc;exact wp_cond_split (t:=b) (aE G hc) (λht=>gx (h.1 ht)) (λhf=>gy (h.2 hf))
  ·exact h.elim
 | block id c ih=>
  intro e a w Q Q' G H h V;refine wp_block (ih e a w _ _ G H h λx W a' w' hx Z h2 h3=>?_);cases x with
  | normal=>exact V .normal W a' w' hx Z h2 h3
  | ret=>exact V .ret W a' w' hx Z h2 h3
  | exit i=>
   simp only [XE.toExit,Exit.inBlock];dsimp only at hx;split
   ·rename_i hi;rw [KG hi]at hx;exact V .normal W a' w' hx Z h2 h3
   ·rename_i hi;rw [Ko hi]at hx;exact V (.exit i) W a' w' hx Z h2 h3
 | seq x y β γ=>
  intro e a w Q Q' G H h V;simp only [gW,J3]at H;have sx:∀t,t∈writes x->t∈writes (x.seq y):=λt ht=>by simp [writes,ht]
  have sy:∀t,t∈writes y->t∈writes (x.seq y):=λt ht=>by simp [writes,ht]
  unfold vc at h;split at h
  ·refine wp_seq (β e a w _ _ G H.1 h λz W a' w' hz Z h2 h3=>?_);cases z with
   | normal=>exact γ W a' w' Q Q' Z H.2 hz λz' e2 a2 w2 η k1 k2 k3=>V z' e2 a2 w2 η k1 (k2.trans h2) ((h3.mono sx).trans (k3.mono sy))
   | ret=>exact V .ret W a' w' hz Z h2 (h3.mono sx)
   | exit i=>exact V (.exit i) W a' w' hz Z h2 (h3.mono sx)
  ·rename_i L hL;obtain⟨J,hx,hy⟩:=h;refine wp_seq (β e a w _ _ G H.1 hx λz W a' w' hz Z h2 h3=>?_);cases z with
   | normal=>
    unfold appE at hz;dsimp only at hz;split at hz
    ·rename_i xs θ;obtain⟨zs,t1,t2,t3,_⟩:=canon hz;have δ:=(Reads.rI Z θ).congr t2;exact γ _ a' w' Q Q' ((G.vJ h3 Z.1).zip δ) H.2 (hy.get t1 w' t3) λz' e2 a2 w2 η k1 k2 k3=>V z' e2 a2 w2 η k1 (k2.trans h2) ((h3.mono sx).trans (k3.mono sy))
    ·exact hz.elim
   | ret=>exact V .ret W a' w' hz Z h2 (h3.mono sx)
   | exit i=>exact V (.exit i) W a' w' hz Z h2 (h3.mono sx)
 | loop c ih=>
  intro e a w Q Q' G H h V;unfold vc at h;split at h
  ·exact h.elim
  ·rename_i L hL;obtain⟨I,m,h0,hr⟩:=h;refine wp_loop (λa' w'=>∃xs,Typed (zU L) xs/\Reads a' L xs/\Cur.app (zU L) I xs w'/\a'.tmps.size=N/\a'.defers=a.defers/\dY (writes c) a a') (λa' w'=>CurN.app (zU L) m (decs a' L) w') ?_ ?_
   ·unfold appE at h0;split at h0
    ·rename_i xs θ;obtain⟨zs,t1,t2,t3,_⟩:=canon h0;exact⟨zs,t1,(Reads.rI G θ).congr t2,t3,G.1,rfl,dY.refl _ _⟩
    ·exact h0.elim
   ·rintro a1 w1 ⟨xs,t1,t2,t3,hN,hd,hs⟩
    refine ih _ a1 w1 _ _ ((G.vJ hs hN).zip t2) H (hr.get t1 w1 t3) λz W a' w' hz Z h2 h3=>?_
    cases z with
    | normal=>
     obtain⟨ε,ι⟩:=hz;unfold appE at ε;split at ε
     ·rename_i ys κ;rw [κ]at ι;obtain⟨zs,u1,u2,u3,u4⟩:=canon ε;have δ:=(Reads.rI Z κ).congr u2;refine⟨⟨zs,u1,δ,u3,Z.1,h2.trans hd,hs.trans h3⟩,?_⟩;rw [wH u1 δ,wH t1 t2,u4];exact ι
     ·exact ε.elim
    | ret=>exact V .ret W a' w' hz Z (h2.trans hd) (hs.trans h3)
    | exit i=>exact V (.exit i) W a' w' hz Z (h2.trans hd) (hs.trans h3)
 | rangeFunc=>intro e a w Q Q' G _ h V;exact h.elim
 | scope=>intro e a w Q Q' G _ h V;exact h.elim
 | label=>intro e a w Q Q' G _ h V;exact h.elim
 | goto=>intro e a w Q Q' G _ h V;exact h.elim
 | refuse=>intro e a w Q Q' G _ h V;exact h.elim
theorem zk:∀{L:List Kd} {R:Cur L} {xs:List SV} {w:World} (acc z:List SV),Cur.app L R xs w->SV.vals z=SV.vals acc->
  lP L R z (.returned (valOf (acc++xs))) w
 | [],R,[],w,acc,z,h,ha=>by
  refine⟨?_,h⟩;rw [KJ,jU ha,<-jU rfl]
 | [],R,_::_,w,acc,z,h,ha=>h.elim
 | k::L,R,[],w,acc,z,h,ha=>h.elim
 | k::L,R,x::xs,w,acc,z,h,ha=>by
  simp only [Cur.app]at h;split at h
  ·rename_i t G;refine⟨t,?_⟩;have app:∀(p q:List SV),SV.vals (p++q)=SV.vals p++SV.vals q:=by
    intro p q;induction p with
    | nil=>rfl
    | cons y p H=>simp [SV.vals,H]
   have :=zk (acc++[x]) (z++[k.sv t]) h (by rw [app,app,ha];simp [SV.vals,Kd.zL G]);simpa using this
  ·exact h.elim
def enumE:Nat->List SV->Env
 | _,[]=>[]
 | n,x::xs=>(n,x)::enumE (n+1) xs
theorem uM:∀{xs:List SV} {n t:Nat} {x:SV},look (enumE n xs) t=some x->∃j,t=n+j/\xs[j]?=some x
 | [],n,t,x,h=>by simp [enumE,look]at h
 | y::z,n,t,x,h=>by
  simp only [enumE,look]at h;split at h
  ·rename_i heq;have:n=t:=by simpa using heq
   subst this;cases h;exact⟨0,rfl,rfl⟩
  ·obtain⟨j,G,h2⟩:=uM h;exact⟨j+1,by omega,by simpa using h2⟩
theorem yi:∀{l:List SV} {j:Nat} {z:SV},l[j]?=some z->(SV.vals l)[j]?=some z.val
 | [],j,z,h=>by simp at h
 | p::l,0,z,h=>by simp at h;subst h;rfl
 | p::l,j+1,z,h=>by simp at h;simpa [SV.vals]using yi h
theorem xX:∀(l:List SV),(SV.vals l).length=l.length
 | []=>rfl
 | _::l=>by simp [SV.vals,xX l]
theorem oT {T:gX}{N:Nat}{e:Env}{a:Act}{w:World}(G:aD N e a){g:ResultVar->Sem Value}
  (I:∀t,g (.tmp t)=pure (a.tmps.getD t undef)) (H:∀b t,g (.cell b t)=(do loadVar t (<-asAddr (a.tmps.getD b undef)))):
  ∀{L:List RI} {R:Cur (pK L)},finR T L R e w->∃xs,Cur.app (pK L) R xs w/\(List.mapM g (L.map RI.rv)).run T.P w= .ok (SV.vals xs) w
 | [],R,h=>⟨[],h,by simp [SV.vals]⟩
 | .tmp s k::L,R,h=>by
  simp only [finR]at h;split at h
  ·rename_i t ht;obtain⟨x,V,β⟩:=MN.1 ht;obtain⟨xs,W,h2⟩:=oT G I H h;refine⟨x::xs,?_,?_⟩
   ·show Cur.app (k::pK L) R (x::xs) w;simp only [Cur.app,β];exact W
   ·simp only [KE,List.mapM_cons,RI.rv,I,Kk,Ku,Ka,h2,SV.vals,G.2 _ _ V]
  ·exact h.elim
 | .cell s t k::L,R,h=>by
  simp only [finR]at h;split at h
  ·rename_i b off V hs;obtain⟨x,hc,h⟩:=h;obtain⟨xs,W,h2⟩:=oT G I H h;refine⟨k.sv x::xs,?_,?_⟩
   ·show Cur.app (k::pK L) R (k.sv x::xs) w;simp only [Cur.app,Kd.DW];exact W
   ·have J:=p8 hs hc;simp only [Instr.loadAt,Instr.sureAddr,Kk,Ku,Ka]at J;have hv:=G.2 _ _ V;simp only [KE,List.mapM_cons,RI.rv,H,Kk,Ku,Ka,hv,SV.val,asAddr,J,h2,SV.vals]
  ·exact h.elim
 | .agg s t::L,R,h=>by
  simp only [finR]at h;split at h
  ·rename_i b off V hs;have key:∀{n bb:Nat} {z:Value} {cs:List Value},T.inf t=some (z,n,bb)->cs.length=n->(∀j,j< n->w.cell? ⟨b,off+j,none⟩=cs[j]?)->finR T L (R (.agg cs.toArray)) e w->
     ∃xs,Cur.app (pK (.agg s t::L)) R xs w/\(List.mapM g ((.agg s t::L).map RI.rv)).run T.P w= .ok (SV.vals xs) w:=by
    intro n bb z cs Z J hc h;obtain⟨xs,W,h2⟩:=oT G I H h;refine⟨.v (.agg cs.toArray)::xs,W,?_⟩;have α:=jd (ja hs w) Z J hc;simp only [Instr.loadAt,Instr.sureAddr,Kk,Ku,Ka]at α;have hv:=G.2 _ _ V;simp only [KE,List.mapM_cons,RI.rv,H,Kk,Ku,Ka,hv,SV.val,asAddr,α,h2,SV.vals]
   split at h
   ·rename_i ks z n bb hk Z;split at h
    ·rename_i hn;obtain⟨ys,J,hc,h⟩:=EX.get h;exact key Z (by rw [gG,J,hn]) (λj hj=>hc.get j (by omega)) h
    ·exact h.elim
   ·rename_i z n bb hk Z;obtain⟨cs,J,hc,h⟩:=h;exact key Z J hc h
   ·exact h.elim
  ·exact h.elim
theorem qD {T:gX}{N:Nat}{e:Env}{a:Act}{fn:Func}{L:List RI}{R:Cur (pK L)}{w:World}(z:aD N e a)(hr:fn.results=(L.map RI.rv).toArray)(h:finR T L R e w):
  ∃xs,Cur.app (pK L) R xs w/\(results fn a.tmps).run T.P w= .ok (valOf xs) w:=by
 unfold results;rw [hr,List.mapM_toArray];simp only [Kk,Sem.run_map];obtain⟨xs,G,h2⟩:=oT z (g:=λ| ResultVar.tmp t=>pure (a.tmps.getD t undef) | .cell b t=>do loadVar t (<-asAddr (a.tmps.getD b undef))) (λ _=>rfl) (λ _ _=>rfl) h;refine⟨xs,G,?_⟩;have H:(List.mapM (m:=Sem) (λx=>match x with | ResultVar.tmp t=>pure (a.tmps.getD t undef) | .cell b t=>do let __do_lift<-asAddr (a.tmps.getD b undef);loadVar t __do_lift) (L.map RI.rv)).run T.P w= .ok (SV.vals xs) w:=h2
 erw [H]
 simp only [Ka,Ku]
 congr 1
 match xs with
 | []=>rfl
 | [x]=>rfl
 | x::y::I=>rfl
theorem qJ {T:gX}(A:IN){f:Nat}{fn:Func}{c:Code}{N:Nat}{args:List SV}(L:List RI){R:Cur (pK L)}{w:World}
  (V:T.P.funcs[f]?=some fn) (hb:fn.body=some c) (W:fn.ntmps=N) (hr:fn.results=(L.map RI.rv).toArray)
  (z:(gW N c&&decide (args.length<=N))=true) (h:vc T A c (enumE 0 args) w (fin T L R)):Calls T.P f (SV.vals args).toArray w (ax (pK L) R):=by
 simp only [J3,J4]at z;refine calls_of_wp V hb (Ds c _ _ w _ _ ⟨?_,?_⟩ z.1 h ?_)
 ·have :=z.2;simp [xX,W];omega
 ·intro t x G;obtain⟨j,Z,G⟩:=uM G;have H:=yi G;have J:j< (SV.vals args).length:=by
   rcases LF j (SV.vals args).length with h | h
   ·exact h
   ·rw [List.getElem?_eq_none h]at H;cases H
  have:t=j:=by omega
  subst this;simp only [Array.getD_eq_getD_getElem?];rw [Array.getElem?_append_left (by simpa using J),MX,H];rfl
 ·intro x e' a' w' G I hd hs;cases x with
  | exit i=>exact G.elim
  | normal=>
   obtain⟨xs,H,h2⟩:=qD I hr G;exact⟨hd,_,h2,zk [] [] H rfl⟩
  | ret=>
   obtain⟨xs,H,h2⟩:=qD I hr G;exact⟨hd,_,h2,zk [] [] H rfl⟩
#print axioms qJ
end Go.Proofs.YtdecokaadekjnaaGreat
namespace Go.Proofs.YtdecokaadekjnaaGreat
open Go
def lookN {α:Type}:List (Nat×α)->Nat->Option α
 | [],_=>none
 | (t,x)::l,n=>if t==n then some x else lookN l n
theorem qo {α:Type}:∀{l:List (Nat×α)} {n:Nat} {x:α},lookN l n=some x->(n,x)∈l
 | [],n,x,h=>by cases h
 | (t,y)::l,n,x,h=>by
  simp only [lookN]at h;split at h
  ·rename_i heq;have:t=n:=by simpa using heq
   subst this;cases h;exact KR
  ·exact Ki _ (qo h)
set_option maxRecDepth 100000 in
noncomputable def Gq:List (Nat×TypeDesc):=[(3,(TypeDesc.int IntKind.i64)),
 (9,TypeDesc.string),
 (5,(TypeDesc.int IntKind.u8)),
 (4,TypeDesc.bool),
 (0,(TypeDesc.tuple #[])),
 (1,(TypeDesc.func #[] #[] false)),
 (21,(TypeDesc.int IntKind.i32)),
 (22,(TypeDesc.tuple #[4,4])),
 (24,(TypeDesc.func #[9,9] #[4] false)),
 (25,(TypeDesc.slice 9)),
 (26,(TypeDesc.tuple #[25,4])),
 (30,(TypeDesc.func #[9] #[4] false)),
 (31,(TypeDesc.tuple #[9,4])),
 (34,(TypeDesc.tuple #[3,4])),
 (36,(TypeDesc.slice 3)),
 (43,(TypeDesc.slice 25)),
 (49,(TypeDesc.struct #[{name:= "all",type:=25,offset:=0,embedded:=false,tag:= "",pkgPath:= "loop.example/g01175/spec",byteOffset:=0},{name:= "steps",type:=36,offset:=1,embedded:=false,tag:= "",pkgPath:= "loop.example/g01175/spec",byteOffset:=24},{name:= "next",type:=43,offset:=2,embedded:=false,tag:= "",pkgPath:= "loop.example/g01175/spec",byteOffset:=48}])),
 (50,(TypeDesc.tuple #[49,4])),
 (53,(TypeDesc.pointer 59)),
 (54,(TypeDesc.tuple #[53,4])),
 (57,(TypeDesc.map 9 25)),
 (59,(TypeDesc.struct #[{name:= "first",type:=9,offset:=0,embedded:=false,tag:= "",pkgPath:= "loop.example/g01175/impl",byteOffset:=0},{name:= "order",type:=25,offset:=1,embedded:=false,tag:= "",pkgPath:= "loop.example/g01175/impl",byteOffset:=16},{name:= "next",type:=57,offset:=2,embedded:=false,tag:= "",pkgPath:= "loop.example/g01175/impl",byteOffset:=40}])),
 (60,(TypeDesc.slice 4)),
 (62,(TypeDesc.map 9 4)),
 (66,(TypeDesc.tuple #[9,9])),
 (69,(TypeDesc.slice 5)),
 (70,(TypeDesc.pointer 77)),
 (71,(TypeDesc.tuple #[70,4])),
 (73,(TypeDesc.int IntKind.u32)),
 (75,(TypeDesc.map 87 3)),
 (77,(TypeDesc.struct #[{name:= "reach",type:=59,offset:=0,embedded:=true,tag:= "",pkgPath:= "loop.example/g01175/impl",byteOffset:=0},{name:= "a",type:=9,offset:=3,embedded:=false,tag:= "",pkgPath:= "loop.example/g01175/impl",byteOffset:=48},{name:= "b",type:=9,offset:=4,embedded:=false,tag:= "",pkgPath:= "loop.example/g01175/impl",byteOffset:=64},{name:= "apart",type:=75,offset:=5,embedded:=false,tag:= "",pkgPath:= "loop.example/g01175/impl",byteOffset:=80}])),
 (82,(TypeDesc.slice 36)),
 (84,(TypeDesc.struct #[{name:= "all",type:=25,offset:=0,embedded:=false,tag:= "",pkgPath:= "loop.example/g01175/spec",byteOffset:=0},{name:= "next",type:=82,offset:=1,embedded:=false,tag:= "",pkgPath:= "loop.example/g01175/spec",byteOffset:=24},{name:= "reach",type:=82,offset:=2,embedded:=false,tag:= "",pkgPath:= "loop.example/g01175/spec",byteOffset:=48},{name:= "apart",type:=82,offset:=3,embedded:=false,tag:= "",pkgPath:= "loop.example/g01175/spec",byteOffset:=72}])),
 (85,(TypeDesc.tuple #[84,3,3,4])),
 (87,(TypeDesc.array 2 9)),
 (88,(TypeDesc.pointer 136)),
 (89,(TypeDesc.tuple #[88,4])),
 (110,(TypeDesc.pointer 148)),
 (113,(TypeDesc.pointer 115)),
 (115,(TypeDesc.struct #[{name:= "list",type:=25,offset:=0,embedded:=false,tag:= "",pkgPath:= "loop.example/g01175/impl",byteOffset:=0},{name:= "bad",type:=4,offset:=1,embedded:=false,tag:= "",pkgPath:= "loop.example/g01175/impl",byteOffset:=24}])),
 (122,(TypeDesc.slice 53)),
 (124,(TypeDesc.tuple #[84,4])),
 (129,(TypeDesc.tuple #[5,4])),
 (134,(TypeDesc.slice 88)),
 (136,(TypeDesc.struct #[{name:= "kind",type:=5,offset:=0,embedded:=false,tag:= "",pkgPath:= "loop.example/g01175/impl",byteOffset:=0},{name:= "a",type:=5,offset:=1,embedded:=false,tag:= "",pkgPath:= "loop.example/g01175/impl",byteOffset:=1},{name:= "b",type:=5,offset:=2,embedded:=false,tag:= "",pkgPath:= "loop.example/g01175/impl",byteOffset:=2},{name:= "kids",type:=134,offset:=3,embedded:=false,tag:= "",pkgPath:= "loop.example/g01175/impl",byteOffset:=8}])),
 (137,(TypeDesc.func #[88] #[4] false)),
 (142,(TypeDesc.tuple #[110,4])),
 (145,(TypeDesc.struct #[{name:= "next",type:=3,offset:=0,embedded:=false,tag:= "",pkgPath:= "loop.example/g01175/impl",byteOffset:=0}])),
 (146,(TypeDesc.pointer 155)),
 (148,(TypeDesc.struct #[{name:= "maker",type:=145,offset:=0,embedded:=true,tag:= "",pkgPath:= "loop.example/g01175/impl",byteOffset:=0},{name:= "text",type:=9,offset:=1,embedded:=false,tag:= "",pkgPath:= "loop.example/g01175/impl",byteOffset:=8},{name:= "l",type:=146,offset:=2,embedded:=false,tag:= "",pkgPath:= "loop.example/g01175/impl",byteOffset:=24}])),
 (150,(TypeDesc.array 26 3)),
 (153,(TypeDesc.slice 156)),
 (155,(TypeDesc.struct #[{name:= "own",type:=36,offset:=0,embedded:=false,tag:= "",pkgPath:= "loop.example/g01175/impl",byteOffset:=0},{name:= "threads",type:=153,offset:=1,embedded:=false,tag:= "",pkgPath:= "loop.example/g01175/impl",byteOffset:=24}])),
 (156,(TypeDesc.pointer 201)),
 (157,(TypeDesc.slice 160)),
 (160,(TypeDesc.struct #[{name:= "kind",type:=5,offset:=0,embedded:=false,tag:= "",pkgPath:= "loop.example/g01175/impl",byteOffset:=0},{name:= "a",type:=3,offset:=1,embedded:=false,tag:= "",pkgPath:= "loop.example/g01175/impl",byteOffset:=8},{name:= "b",type:=3,offset:=2,embedded:=false,tag:= "",pkgPath:= "loop.example/g01175/impl",byteOffset:=16},{name:= "rest",type:=146,offset:=3,embedded:=false,tag:= "",pkgPath:= "loop.example/g01175/impl",byteOffset:=24},{name:= "again",type:=4,offset:=4,embedded:=false,tag:= "",pkgPath:= "loop.example/g01175/impl",byteOffset:=32}])),
 (161,(TypeDesc.func #[3] #[4] false)),
 (163,(TypeDesc.slice 166)),
 (166,(TypeDesc.struct #[{name:= "kind",type:=5,offset:=0,embedded:=false,tag:= "",pkgPath:= "loop.example/g01175/spec",byteOffset:=0},{name:= "over",type:=5,offset:=1,embedded:=false,tag:= "",pkgPath:= "loop.example/g01175/spec",byteOffset:=1},{name:= "name",type:=5,offset:=2,embedded:=false,tag:= "",pkgPath:= "loop.example/g01175/spec",byteOffset:=2},{name:= "rest",type:=9,offset:=3,embedded:=false,tag:= "",pkgPath:= "loop.example/g01175/spec",byteOffset:=8},{name:= "stays",type:=4,offset:=4,embedded:=false,tag:= "",pkgPath:= "loop.example/g01175/spec",byteOffset:=24}])),
 (171,(TypeDesc.map 9 172)),
 (172,(TypeDesc.array 2 73)),
 (173,(TypeDesc.slice 87)),
 (179,(TypeDesc.pointer 181)),
 (181,(TypeDesc.struct #[{name:= "s",type:=9,offset:=0,embedded:=false,tag:= "",pkgPath:= "loop.example/g01175/impl",byteOffset:=0},{name:= "at",type:=3,offset:=1,embedded:=false,tag:= "",pkgPath:= "loop.example/g01175/impl",byteOffset:=16},{name:= "bad",type:=4,offset:=2,embedded:=false,tag:= "",pkgPath:= "loop.example/g01175/impl",byteOffset:=24}])),
 (185,(TypeDesc.func #[88] #[] false)),
 (198,(TypeDesc.pointer 145)),
 (199,(TypeDesc.slice 146)),
 (201,(TypeDesc.struct #[{name:= "kind",type:=5,offset:=0,embedded:=false,tag:= "",pkgPath:= "loop.example/g01175/impl",byteOffset:=0},{name:= "a",type:=3,offset:=1,embedded:=false,tag:= "",pkgPath:= "loop.example/g01175/impl",byteOffset:=8},{name:= "b",type:=3,offset:=2,embedded:=false,tag:= "",pkgPath:= "loop.example/g01175/impl",byteOffset:=16},{name:= "rest",type:=146,offset:=3,embedded:=false,tag:= "",pkgPath:= "loop.example/g01175/impl",byteOffset:=24},{name:= "parts",type:=199,offset:=4,embedded:=false,tag:= "",pkgPath:= "loop.example/g01175/impl",byteOffset:=32}])),
 (206,(TypeDesc.func #[156] #[4] false)),
 (209,(TypeDesc.pointer 84)),
 (226,(TypeDesc.map 3 3)),
 (230,(TypeDesc.func #[146] #[4] false)),
 (231,(TypeDesc.pointer 233)),
 (233,(TypeDesc.struct #[{name:= "broken",type:=4,offset:=0,embedded:=false,tag:= "",pkgPath:= "loop.example/g01175/spec",byteOffset:=0},{name:= "once",type:=4,offset:=1,embedded:=false,tag:= "",pkgPath:= "loop.example/g01175/spec",byteOffset:=1}])),
 (245,(TypeDesc.tuple #[3,3])),
 (247,(TypeDesc.pointer 250)),
 (248,(TypeDesc.map 3 5)),
 (250,(TypeDesc.struct #[{name:= "env",type:=248,offset:=0,embedded:=false,tag:= "",pkgPath:= "loop.example/g01175/impl",byteOffset:=0},{name:= "taken",type:=73,offset:=1,embedded:=false,tag:= "",pkgPath:= "loop.example/g01175/impl",byteOffset:=8},{name:= "bad",type:=4,offset:=2,embedded:=false,tag:= "",pkgPath:= "loop.example/g01175/impl",byteOffset:=12},{name:= "owns",type:=3,offset:=3,embedded:=false,tag:= "",pkgPath:= "loop.example/g01175/impl",byteOffset:=16}])),
 (253,(TypeDesc.pointer 255)),
 (255,(TypeDesc.struct #[{name:= "front",type:=9,offset:=0,embedded:=false,tag:= "",pkgPath:= "loop.example/g01175/spec",byteOffset:=0},{name:= "threads",type:=25,offset:=1,embedded:=false,tag:= "",pkgPath:= "loop.example/g01175/spec",byteOffset:=16}]))]
set_option maxRecDepth 100000 in
theorem Fl:∀p∈Gq,Tryz.prog.underlying p.1=some p.2:=by
 unfold Gq;refine Kc.2 ⟨Tryz.underlying3,Kc.2 ⟨Tryz.underlying9,Kc.2 ⟨Tryz.underlying5,Kc.2 ⟨Tryz.underlying4,Kc.2 ⟨Tryz.underlying0,Kc.2 ⟨Tryz.underlying1,Kc.2 ⟨Tryz.underlying21,Kc.2 ⟨Tryz.underlying22,Kc.2 ⟨Tryz.underlying24,Kc.2 ⟨Tryz.underlying25,Kc.2 ⟨Tryz.underlying26,Kc.2 ⟨Tryz.underlying30,Kc.2 ⟨Tryz.underlying31,Kc.2 ⟨Tryz.underlying34,Kc.2 ⟨Tryz.underlying36,Kc.2 ⟨Tryz.underlying43,Kc.2 ⟨Tryz.underlying49,Kc.2 ⟨Tryz.underlying50,Kc.2 ⟨Tryz.underlying53,Kc.2 ⟨Tryz.underlying54,Kc.2 ⟨Tryz.underlying57,Kc.2 ⟨Tryz.underlying59,Kc.2 ⟨Tryz.underlying60,Kc.2 ⟨Tryz.underlying62,Kc.2 ⟨Tryz.underlying66,Kc.2 ⟨Tryz.underlying69,Kc.2 ⟨Tryz.underlying70,Kc.2 ⟨Tryz.underlying71,Kc.2 ⟨Tryz.underlying73,Kc.2 ⟨Tryz.underlying75,Kc.2 ⟨Tryz.underlying77,Kc.2 ⟨Tryz.underlying82,Kc.2 ⟨Tryz.underlying84,Kc.2 ⟨Tryz.underlying85,Kc.2 ⟨Tryz.underlying87,Kc.2 ⟨Tryz.underlying88,Kc.2 ⟨Tryz.underlying89,Kc.2 ⟨Tryz.underlying110,Kc.2 ⟨Tryz.underlying113,Kc.2 ⟨Tryz.underlying115,Kc.2 ⟨Tryz.underlying122,Kc.2 ⟨Tryz.underlying124,Kc.2 ⟨Tryz.underlying129,Kc.2 ⟨Tryz.underlying134,Kc.2 ⟨Tryz.underlying136,Kc.2 ⟨Tryz.underlying137,Kc.2 ⟨Tryz.underlying142,Kc.2 ⟨Tryz.underlying145,Kc.2 ⟨Tryz.underlying146,Kc.2 ⟨Tryz.underlying148,Kc.2 ⟨Tryz.underlying150,Kc.2 ⟨Tryz.underlying153,Kc.2 ⟨Tryz.underlying155,Kc.2 ⟨Tryz.underlying156,Kc.2 ⟨Tryz.underlying157,Kc.2 ⟨Tryz.underlying160,Kc.2 ⟨Tryz.underlying161,Kc.2 ⟨Tryz.underlying163,Kc.2 ⟨Tryz.underlying166,Kc.2 ⟨Tryz.underlying171,Kc.2 ⟨Tryz.underlying172,Kc.2 ⟨Tryz.underlying173,Kc.2 ⟨Tryz.underlying179,Kc.2 ⟨Tryz.underlying181,Kc.2 ⟨Tryz.underlying185,Kc.2 ⟨Tryz.underlying198,Kc.2 ⟨Tryz.underlying199,Kc.2 ⟨Tryz.underlying201,Kc.2 ⟨Tryz.underlying206,Kc.2 ⟨Tryz.underlying209,Kc.2 ⟨Tryz.underlying226,Kc.2 ⟨Tryz.underlying230,Kc.2 ⟨Tryz.underlying231,Kc.2 ⟨Tryz.underlying233,Kc.2 ⟨Tryz.underlying245,Kc.2 ⟨Tryz.underlying247,Kc.2 ⟨Tryz.underlying248,Kc.2 ⟨Tryz.underlying250,Kc.2 ⟨Tryz.underlying253,Kc.2 ⟨Tryz.underlying255,List.forall_mem_nil _⟩⟩⟩⟩⟩⟩⟩⟩⟩⟩⟩⟩⟩⟩⟩⟩⟩⟩⟩⟩⟩⟩⟩⟩⟩⟩⟩⟩⟩⟩⟩⟩⟩⟩⟩⟩⟩⟩⟩⟩⟩⟩⟩⟩⟩⟩⟩⟩⟩⟩⟩⟩⟩⟩⟩⟩⟩⟩⟩⟩⟩⟩⟩⟩⟩⟩⟩⟩⟩⟩⟩⟩⟩⟩⟩⟩⟩⟩⟩⟩
theorem D7 (t:Nat)(d:TypeDesc)(h:lookN Gq t=some d):Tryz.prog.underlying t=some d:=Fl (t,d) (qo h)
set_option maxRecDepth 100000 in
noncomputable def Ge:List (Nat×(Value×Nat×Nat)):=[(3,(.int .i64 0),1,8),
 (9,(.string ⟨#[]⟩),1,16),
 (5,(.int .u8 0),1,1),
 (4,(.bool false),1,1),
 (1,.nilFunc,1,8),
 (21,(.int .i32 0),1,4),
 (24,.nilFunc,1,8),
 (25,(.slice none 0 0),1,24),
 (30,.nilFunc,1,8),
 (36,(.slice none 0 0),1,24),
 (43,(.slice none 0 0),1,24),
 (49,(.agg #[(.slice none 0 0),(.slice none 0 0),(.slice none 0 0)]),3,72),
 (53,(.pointer none),1,8),
 (57,(.map none),1,8),
 (59,(.agg #[(.string ⟨#[]⟩),(.slice none 0 0),(.map none)]),3,48),
 (60,(.slice none 0 0),1,24),
 (62,(.map none),1,8),
 (69,(.slice none 0 0),1,24),
 (70,(.pointer none),1,8),
 (73,(.int .u32 0),1,4),
 (75,(.map none),1,8),
 (77,(.agg #[(.string ⟨#[]⟩),(.slice none 0 0),(.map none),(.string ⟨#[]⟩),(.string ⟨#[]⟩),(.map none)]),6,88),
 (82,(.slice none 0 0),1,24),
 (84,(.agg #[(.slice none 0 0),(.slice none 0 0),(.slice none 0 0),(.slice none 0 0)]),4,96),
 (87,(.agg #[(.string ⟨#[]⟩),(.string ⟨#[]⟩)]),2,32),
 (88,(.pointer none),1,8),
 (110,(.pointer none),1,8),
 (113,(.pointer none),1,8),
 (115,(.agg #[(.slice none 0 0),(.bool false)]),2,32),
 (122,(.slice none 0 0),1,24),
 (134,(.slice none 0 0),1,24),
 (136,(.agg #[(.int .u8 0),(.int .u8 0),(.int .u8 0),(.slice none 0 0)]),4,32),
 (137,.nilFunc,1,8),
 (145,(.agg #[(.int .i64 0)]),1,8),
 (146,(.pointer none),1,8),
 (148,(.agg #[(.int .i64 0),(.string ⟨#[]⟩),(.pointer none)]),3,32),
 (150,(.agg #[(.int .i64 0),(.int .i64 0),(.int .i64 0),(.int .i64 0),(.int .i64 0),(.int .i64 0),(.int .i64 0),(.int .i64 0),(.int .i64 0),(.int .i64 0),(.int .i64 0),(.int .i64 0),(.int .i64 0),(.int .i64 0),(.int .i64 0),(.int .i64 0),(.int .i64 0),(.int .i64 0),(.int .i64 0),(.int .i64 0),(.int .i64 0),(.int .i64 0),(.int .i64 0),(.int .i64 0),(.int .i64 0),(.int .i64 0)]),26,208),
 (153,(.slice none 0 0),1,24),
 (155,(.agg #[(.slice none 0 0),(.slice none 0 0)]),2,48),
 (156,(.pointer none),1,8),
 (157,(.slice none 0 0),1,24),
 (160,(.agg #[(.int .u8 0),(.int .i64 0),(.int .i64 0),(.pointer none),(.bool false)]),5,40),
 (161,.nilFunc,1,8),
 (163,(.slice none 0 0),1,24),
 (166,(.agg #[(.int .u8 0),(.int .u8 0),(.int .u8 0),(.string ⟨#[]⟩),(.bool false)]),5,32),
 (171,(.map none),1,8),
 (172,(.agg #[(.int .u32 0),(.int .u32 0)]),2,8),
 (173,(.slice none 0 0),1,24),
 (179,(.pointer none),1,8),
 (181,(.agg #[(.string ⟨#[]⟩),(.int .i64 0),(.bool false)]),3,32),
 (185,.nilFunc,1,8),
 (198,(.pointer none),1,8),
 (199,(.slice none 0 0),1,24),
 (201,(.agg #[(.int .u8 0),(.int .i64 0),(.int .i64 0),(.pointer none),(.slice none 0 0)]),5,56),
 (206,.nilFunc,1,8),
 (209,(.pointer none),1,8),
 (226,(.map none),1,8),
 (230,.nilFunc,1,8),
 (231,(.pointer none),1,8),
 (233,(.agg #[(.bool false),(.bool false)]),2,2),
 (247,(.pointer none),1,8),
 (248,(.map none),1,8),
 (250,(.agg #[(.map none),(.int .u32 0),(.bool false),(.int .i64 0)]),4,24),
 (253,(.pointer none),1,8),
 (255,(.agg #[(.string ⟨#[]⟩),(.slice none 0 0)]),2,40)]
set_option maxRecDepth 100000 in
theorem EH:Ge.map (λp=>(Tryz.prog.info? p.1).map λi=>(i.zero,i.size,i.bytes))=Ge.map (λp=>some (some p.2.1,p.2.2.1,p.2.2.2)):=by kernel_rfl
theorem GB (t:Nat)(z:Value)(s b:Nat)(h:lookN Ge t=some (z,s,b)):∃i,Tryz.prog.info? t=some i/\i.zero=some z/\i.size=s/\i.bytes=b:=by
 have H:=qo h;have h2:=List.map_inj_left.1 EH _ H;cases G:Tryz.prog.info? t with
 | none=>rw [G]at h2;cases h2
 | some i=>
  rw [G]at h2;simp only [LR,Lw,Prod.mk.injEq]at h2;exact⟨i,rfl,h2.1,h2.2.1,h2.2.2⟩
def dh:List Nat:=[3,4,5,6,7,8,9,10,11,12,13,14,15,16,17,18,19,20,21,22,23,24,25,26,27,28,29,30,31,32,33,34,35,36,37,38,39,40,41,42,43,44,45,46,47,48,49,50,51,52,53,54,55,56,57,58,59,60,61,62,63,64,65,66,67,68,69,70,71,72,73,74,75,76,77,78,79,80,81,82,83,84,85,86,87,88,89,90,91,92,93,94,95,96,97,98,99,100,101,102,103,104,105,106,107,108,109,110,111,112,113,114,115,116,117,118,119,120,121,122,123,124,125,126,127,128,129,130,131,132,133,134,135,136,137,138,139,140,141,142,143,144,145,146,147,148,149,150,151,152,153,154,155,156,157,158,159,160,161,162,163,164,165,166,167,168,169,170,171,172,173,174,175,176,177,178,179,180,181,182,183,184,185,186,187,188,189,190,191,192,193,194,195,196,197,198,199,200,201,202,203,204,205,206,207,208,209,210,211,212,214,215,216,217,218,219,220,221,222,223,224,225,226,227,228,229,230,231,235,236,237,238,239,240,241,242,243,244,245,246,247,248,249,250,251,252,253,254,255,256,257,258]
theorem CC:dh.all (λf=>match Tryz.prog.funcs[f]? with | some g=> !g.body.isNone&& !(g.name== "runtime.NumGoroutine") | none=>false)=true:=by kernel_rfl
theorem Fo (f:Nat)(h:dh.contains f=true):∃g,Tryz.prog.funcs[f]?=some g/\g.body.isNone=false/\(g.name== "runtime.NumGoroutine")=false:=by
 have z:=LW.1 CC f (by simpa using h);cases G:Tryz.prog.funcs[f]? with
 | none=>rw [G]at z;cases z
 | some g=>rw [G]at z;simp only [J3,L0]at z;exact⟨g,rfl,z.1,z.2⟩
theorem Cg:Tryz.prog.follows .mixedOrders=true:=by kernel_rfl
noncomputable def IZ:gX where
 P:=Tryz.prog
 und:=lookN Gq
 und_ok:=D7
 inf:=lookN Ge
 inf_ok:=GB
 fn:=dh.contains
 fn_ok:=Fo
 mixed:=Cg
def vT (f:Func):Code:=match f.body with
 | some c=>c
 | none=> .skip
abbrev xh (w:World)(b f n:Nat)(cs:List Value)(K:World->Prop):Prop:=(List.length cs=n/\List.all cs oneV=true/\∀j,j< n->(∃u,World.cell? w ⟨b,f+j,none⟩=some u)/\World.frozen? w ⟨b,f+j,none⟩=false)/\∀w2:World,w2=World.setCells w b f cs->K w2
abbrev aN (w:World)(o:Obj)(K:Nat->World->Prop):Prop:=∀(b:Nat) (w2:World),b=Array.size (World.heap w)->w2=World.alloc w o->K b w2
abbrev az (v:Value)(K:Nat->Nat->Prop):Prop:=∃(b o:Nat),v=Value.pointer (some ⟨b,o,none⟩)/\K b o
abbrev aJ (v:Value)(i:Int)(K:Nat->Nat->Prop):Prop:=∃(b o n c:Nat),v=Value.slice (some ⟨b,o,none⟩) n c/\0<=i/\i< n/\K b o
abbrev bM (v:Value)(K:Nat->Prop):Prop:=∃(a:Option Addr) (n c:Nat),v=Value.slice a n c/\K n
abbrev bg (w:World)(b j:Nat)(v:Value)(K:World->Prop):Prop:=((∃u:Value,World.cell? w ⟨b,j,none⟩=some u)/\World.frozen? w ⟨b,j,none⟩=false)/\∀w2:World,w2=World.setCell w ⟨b,j,none⟩ v->K w2
abbrev ai (c:Bool)(A B:Prop):Prop:=(c=true->A)/\(c=false->B)
abbrev iz (c:Bool)(A B:Prop):Prop:=(c=false->A)/\(c=true->B)
abbrev bO (w:World)(K:(World->Prop)->World->Prop):Prop:=∃S:World->Prop,∀w1:World,w1=World.drew w->S w1/\K S w1
abbrev eu (e z y:Nat)(w:World)(v x:Value)(K:Value->World->Prop):Prop:=∃(base n m:Nat) (xs news:List Value),World.ownsRow w base e z v n xs/\base<=Array.size (World.heap w)/\dW w x m z news/\(n+m<=maxLen/\(n+m)* y<=140737488355328)/\∀(v':Value) (w':World),World.ownsRow w' base e z v' (n+m) (xs++news)->World.grownBy w w' (Value.ownBlock v)->(∀b:Nat,Value.ownBlock v'=some b->Value.ownBlock v=some b\/Array.size (World.heap w)<=b)->K v' w'
abbrev pB (w:World)(b o:Nat)(K:Int->Prop):Prop:=∃v:Int,World.cell? w ⟨b,o,none⟩=some (.int .i64 v)/\K v
abbrev kA (S:World->Prop)(b o:Nat)(K:Int->Prop):Prop:=∃v:Int,(∀w',S w'->World.cell? w' ⟨b,o,none⟩=some (.int .i64 v))/\K v
abbrev gg (w:World)(b o:Nat)(K:UInt8->Prop):Prop:=∃v:UInt8,World.cell? w ⟨b,o,none⟩=some (.int .u8 (UInt8.toNat v))/\K v
abbrev Iu (S:World->Prop)(b o:Nat)(K:UInt8->Prop):Prop:=∃v:UInt8,(∀w',S w'->World.cell? w' ⟨b,o,none⟩=some (.int .u8 (UInt8.toNat v)))/\K v
abbrev IM (w:World)(b o:Nat)(K:UInt32->Prop):Prop:=∃v:UInt32,World.cell? w ⟨b,o,none⟩=some (.int .u32 (UInt32.toNat v))/\K v
abbrev Ja (S:World->Prop)(b o:Nat)(K:UInt32->Prop):Prop:=∃v:UInt32,(∀w',S w'->World.cell? w' ⟨b,o,none⟩=some (.int .u32 (UInt32.toNat v)))/\K v
abbrev bZ (w:World)(b o:Nat)(K:ay->Prop):Prop:=∃v:ay,World.cell? w ⟨b,o,none⟩=some (.string (ab v))/\K v
abbrev iq (S:World->Prop)(b o:Nat)(K:ay->Prop):Prop:=∃v:ay,(∀w',S w'->World.cell? w' ⟨b,o,none⟩=some (.string (ab v)))/\K v
abbrev EW (w:World)(b o:Nat)(K:Bool->Prop):Prop:=∃v:Bool,World.cell? w ⟨b,o,none⟩=some (.bool v)/\K v
abbrev JJ (S:World->Prop)(b o:Nat)(K:Bool->Prop):Prop:=∃v:Bool,(∀w',S w'->World.cell? w' ⟨b,o,none⟩=some (.bool v))/\K v
abbrev aS (w:World)(b o:Nat)(K:Value->Prop):Prop:=∃v:Value,World.cell? w ⟨b,o,none⟩=some (v)/\K v
abbrev ct (S:World->Prop)(b o:Nat)(K:Value->Prop):Prop:=∃v:Value,(∀w',S w'->World.cell? w' ⟨b,o,none⟩=some (v))/\K v
abbrev fC (f:Nat)(a:Array Value)(w:World)(K:World->Prop):Prop:=Calls Tryz.prog f a w (ax [] K)
abbrev cB (f:Nat)(a:Array Value)(w:World)(K:Value->World->Prop):Prop:=Calls Tryz.prog f a w (ax [.v] K)
abbrev ck (f:Nat)(a:Array Value)(w:World)(K:Bool->World->Prop):Prop:=Calls Tryz.prog f a w (ax [.b] K)
abbrev bw (f:Nat)(a:Array Value)(w:World)(K:ay->World->Prop):Prop:=Calls Tryz.prog f a w (ax [.s] K)
abbrev iU (f:Nat)(a:Array Value)(w:World)(K:Int->World->Prop):Prop:=Calls Tryz.prog f a w (ax [.i] K)
abbrev gY (f:Nat)(a:Array Value)(w:World)(K:UInt8->World->Prop):Prop:=Calls Tryz.prog f a w (ax [.c] K)
abbrev y3 (f:Nat)(a:Array Value)(w:World)(K:UInt32->World->Prop):Prop:=Calls Tryz.prog f a w (ax [.w] K)
abbrev oA (f:Nat)(a:Array Value)(w:World)(K:Value->Bool->World->Prop):Prop:=Calls Tryz.prog f a w (ax [.v,.b] K)
abbrev hZ (f:Nat)(a:Array Value)(w:World)(K:ay->Bool->World->Prop):Prop:=Calls Tryz.prog f a w (ax [.s,.b] K)
abbrev BJ (f:Nat)(a:Array Value)(w:World)(K:ay->ay->World->Prop):Prop:=Calls Tryz.prog f a w (ax [.s,.s] K)
abbrev Fu (f:Nat)(a:Array Value)(w:World)(K:UInt8->Bool->World->Prop):Prop:=Calls Tryz.prog f a w (ax [.c,.b] K)
abbrev IT (f:Nat)(a:Array Value)(w:World)(K:Int->Int->World->Prop):Prop:=Calls Tryz.prog f a w (ax [.i,.i] K)
abbrev Ir (a0:UInt8)(w:World)(K:(UInt8->World->Prop)->(UInt8->World->Nat)->UInt8->World->Prop):Prop:=∃(I:UInt8->World->Prop) (m:UInt8->World->Nat),I a0 w/\∀(z:UInt8) (w2:World),I z w2->K I m z w2
abbrev eM (a0:Int)(w:World)(K:(Int->World->Prop)->(Int->World->Nat)->Int->World->Prop):Prop:=∃(I:Int->World->Prop) (m:Int->World->Nat),I a0 w/\∀(z:Int) (w2:World),I z w2->K I m z w2
abbrev CQ (a0:Int)(H:Int)(w:World)(K:(Int->Int->World->Prop)->(Int->Int->World->Nat)->Int->Int->World->Prop):Prop:=∃(I:Int->Int->World->Prop) (m:Int->Int->World->Nat),I a0 H w/\∀(z:Int) (G:Int) (w2:World),I z G w2->K I m z G w2
abbrev kY (a0:ay)(H:Int)(w:World)(K:(ay->Int->World->Prop)->(ay->Int->World->Nat)->ay->Int->World->Prop):Prop:=∃(I:ay->Int->World->Prop) (m:ay->Int->World->Nat),I a0 H w/\∀(z:ay) (G:Int) (w2:World),I z G w2->K I m z G w2
abbrev JM (a0:ay)(w:World)(K:(ay->World->Prop)->(ay->World->Nat)->ay->World->Prop):Prop:=∃(I:ay->World->Prop) (m:ay->World->Nat),I a0 w/\∀(z:ay) (w2:World),I z w2->K I m z w2
abbrev jX (a0:Value)(H:Int)(w:World)(K:(Value->Int->World->Prop)->(Value->Int->World->Nat)->Value->Int->World->Prop):Prop:=∃(I:Value->Int->World->Prop) (m:Value->Int->World->Nat),I a0 H w/\∀(z:Value) (G:Int) (w2:World),I z G w2->K I m z G w2
abbrev GZ (a0:ay)(J:ay)(a2:Int)(w:World)(K:(ay->ay->Int->World->Prop)->(ay->ay->Int->World->Nat)->ay->ay->Int->World->Prop):Prop:=∃(I:ay->ay->Int->World->Prop) (m:ay->ay->Int->World->Nat),I a0 J a2 w/\∀(z:ay) (G:ay) (H:Int) (w2:World),I z G H w2->K I m z G H w2
abbrev A5 (a0:Bool)(J:Value)(a2:Int)(w:World)(K:(Bool->Value->Int->World->Prop)->(Bool->Value->Int->World->Nat)->Bool->Value->Int->World->Prop):Prop:=∃(I:Bool->Value->Int->World->Prop) (m:Bool->Value->Int->World->Nat),I a0 J a2 w/\∀(z:Bool) (G:Value) (H:Int) (w2:World),I z G H w2->K I m z G H w2
abbrev Jk (a0:ay)(H:ay)(w:World)(K:(ay->ay->World->Prop)->(ay->ay->World->Nat)->ay->ay->World->Prop):Prop:=∃(I:ay->ay->World->Prop) (m:ay->ay->World->Nat),I a0 H w/\∀(z:ay) (G:ay) (w2:World),I z G w2->K I m z G w2
abbrev JE (a0:ay)(H:Value)(w:World)(K:(ay->Value->World->Prop)->(ay->Value->World->Nat)->ay->Value->World->Prop):Prop:=∃(I:ay->Value->World->Prop) (m:ay->Value->World->Nat),I a0 H w/\∀(z:ay) (G:Value) (w2:World),I z G w2->K I m z G w2
abbrev JA (a0:ay)(H:UInt8)(w:World)(K:(ay->UInt8->World->Prop)->(ay->UInt8->World->Nat)->ay->UInt8->World->Prop):Prop:=∃(I:ay->UInt8->World->Prop) (m:ay->UInt8->World->Nat),I a0 H w/\∀(z:ay) (G:UInt8) (w2:World),I z G w2->K I m z G w2
abbrev FY (a0:UInt32)(H:Int)(w:World)(K:(UInt32->Int->World->Prop)->(UInt32->Int->World->Nat)->UInt32->Int->World->Prop):Prop:=∃(I:UInt32->Int->World->Prop) (m:UInt32->Int->World->Nat),I a0 H w/\∀(z:UInt32) (G:Int) (w2:World),I z G w2->K I m z G w2
@[simp] theorem JI (A B:Prop):ai true A B↔A:=⟨λh=>h.1 rfl,λh=>⟨λ _=>h,(λe=>by cases e)⟩⟩
@[simp] theorem JK (A B:Prop):ai false A B↔B:=⟨λh=>h.2 rfl,λh=>⟨(λe=>by cases e),λ _=>h⟩⟩
@[simp] theorem JN (A B:Prop):iz true A B↔B:=⟨λh=>h.2 rfl,λh=>⟨(λe=>by cases e),λ _=>h⟩⟩
@[simp] theorem JH (A B:Prop):iz false A B↔A:=⟨λh=>h.1 rfl,λh=>⟨λ _=>h,(λe=>by cases e)⟩⟩
def bn (l c:List (Nat×List (Nat×Kd)))(t:List Nat):IN:=⟨λn=>lookN l n,λn=>lookN c n,λn=>t.contains n⟩
theorem bs {f:Nat}{fn:Func}{w:World}{V:Prop}(A:IN)(L:List RI)(args:List SV){R:Cur (pK L)}(G:IZ.P.funcs[f]?=some fn)(e:(fn.body,fn.results,gW fn.ntmps (vT fn)&&decide (args.length<=fn.ntmps),vc IZ A (vT fn) (enumE 0 args) w (fin IZ L R))=(some (vT fn),(L.map RI.rv).toArray,true,V))(h:V):Calls IZ.P f (SV.vals args).toArray w (ax (pK L) R):=by
 injection e with hb e
 injection e with hr e
 injection e with z e
 exact qJ (T:=IZ) A L (c:=vT fn) (args:=args) G hb rfl hr z (Eq.mpr e h)
end Go.Proofs.YtdecokaadekjnaaGreat
namespace Go.Proofs.YtdecokaadekjnaaGreat
open Go
set_option maxRecDepth 100000
theorem sG (c1:UInt8)(w:World)(R:Bool->World->Prop)(h:ai (decide (97<=c1)) (iz (decide (c1<=122)) (ai (decide (65<=c1)) (iz (decide (c1<=90)) (R ((decide (128<=c1))) w) (R true w)) (R ((decide (128<=c1))) w)) (R true w)) (ai (decide (65<=c1)) (iz (decide (c1<=90)) (R ((decide (128<=c1))) w) (R true w)) (R ((decide (128<=c1))) w))):
  Calls Tryz.prog 161 #[(.int .u8 c1.toNat)] w (ax [.b] R):=
 bs (bn [] [] []) [.tmp 2 .b] [.c c1] Tryz.func161 (by kernel_rfl) h
theorem nk (z:ay)(a2:Int)(w:World)(R:Int->World->Prop)(h:ai (decide ((z.length:Int)<=a2)) (R (-1) w) ((0<=(a2:Int)/\(a2:Int)< z.length)/\ai (decide ((bt z a2.toNat)=48)) (aj (a2+1)/\R (a2+1) w) (ai (decide ((bt z a2.toNat)=42)) (aj (a2+1)/\iU 110 #[(.string (ab z)),(.int .i64 (a2+1))] w λn3 w4=>R n3 w4) (ai (decide ((bt z a2.toNat)=126)) (aj (a2+1)/\ai (decide ((a2+1)< (z.length:Int))) (aj (a2+1)/\(0<=((a2+1):Int)/\((a2+1):Int)< z.length)/\ai (decide ((bt z (Int.toNat (a2+1)))=46)) (aj (a2+2)/\iU 110 #[(.string (ab z)),(.int .i64 (a2+2))] w λn5 w6=>R n5 w6) (R (-1) w)) (R (-1) w)) (ai (decide ((bt z a2.toNat)=35)) (aj (a2+2)/\ai (decide ((a2+2)< (z.length:Int))) (aj (a2+1)/\(0<=((a2+1):Int)/\((a2+1):Int)< z.length)/\ck 161 #[(.int .u8 (UInt8.toNat (bt z (Int.toNat (a2+1)))))] w λq7 w8=>ai q7 (aj (a2+2)/\(0<=((a2+2):Int)/\((a2+2):Int)< z.length)/\ai (decide ((bt z (Int.toNat (a2+2)))=46)) (aj (a2+3)/\iU 110 #[(.string (ab z)),(.int .i64 (a2+3))] w8 λn9 δ=>R n9 δ) (R (-1) w8)) (R (-1) w8)) (R (-1) w)) (ai (decide ((bt z a2.toNat)=91)) (aj (a2+4)/\ai (decide ((a2+4)< (z.length:Int))) (aj (a2+1)/\(0<=((a2+1):Int)/\((a2+1):Int)< z.length)/\ck 161 #[(.int .u8 (UInt8.toNat (bt z (Int.toNat (a2+1)))))] w λε Z=>ai ε (aj (a2+2)/\(0<=((a2+2):Int)/\((a2+2):Int)< z.length)/\ai (decide ((bt z (Int.toNat (a2+2)))=61)) (aj (a2+3)/\(0<=((a2+3):Int)/\((a2+3):Int)< z.length)/\ck 161 #[(.int .u8 (UInt8.toNat (bt z (Int.toNat (a2+3)))))] Z λζ α=>ai ζ (aj (a2+4)/\(0<=((a2+4):Int)/\((a2+4):Int)< z.length)/\ai (decide ((bt z (Int.toNat (a2+4)))=93)) (aj (a2+5)/\iU 110 #[(.string (ab z)),(.int .i64 (a2+5))] α λη θ=>R η θ) (R (-1) α)) (R (-1) α)) (R (-1) Z)) (R (-1) Z)) (R (-1) w)) (ai (decide ((bt z a2.toNat)=40)) (aj (a2+1)/\iU 110 #[(.string (ab z)),(.int .i64 (a2+1))] w λG J=>iz (decide (G< 0)) (iz (decide ((z.length:Int)<=G)) ((0<=(G:Int)/\(G:Int)< z.length)/\ai (!decide ((bt z G.toNat)=43)) ((0<=(G:Int)/\(G:Int)< z.length)/\ai (!decide ((bt z G.toNat)=38)) (R (-1) J) (aj (G+1)/\iU 110 #[(.string (ab z)),(.int .i64 (G+1))] J λH V=>ai (decide (0<=H)) (ai (decide (H< (z.length:Int))) ((0<=(H:Int)/\(H:Int)< z.length)/\ai (decide ((bt z H.toNat)=41)) (aj (H+1)/\R (H+1) V) (R (-1) V)) (R (-1) V)) (R (-1) V))) (aj (G+1)/\iU 110 #[(.string (ab z)),(.int .i64 (G+1))] J λI W=>ai (decide (0<=I)) (ai (decide (I< (z.length:Int))) ((0<=(I:Int)/\(I:Int)< z.length)/\ai (decide ((bt z I.toNat)=41)) (aj (I+1)/\R (I+1) W) (R (-1) W)) (R (-1) W)) (R (-1) W))) (R (-1) J)) (R (-1) J)) (ck 161 #[(.int .u8 (UInt8.toNat (bt z a2.toNat)))] w λι w24=>ai ι (aj (a2+3)/\ai (decide ((a2+3)< (z.length:Int))) (aj (a2+1)/\(0<=((a2+1):Int)/\((a2+1):Int)< z.length)/\iz (decide ((bt z (Int.toNat (a2+1)))=33)) (aj (a2+1)/\(0<=((a2+1):Int)/\((a2+1):Int)< z.length)/\ai (decide ((bt z (Int.toNat (a2+1)))=63)) (aj (a2+2)/\(0<=((a2+2):Int)/\((a2+2):Int)< z.length)/\ck 161 #[(.int .u8 (UInt8.toNat (bt z (Int.toNat (a2+2)))))] w24 λκ β=>ai κ (aj (a2+3)/\(0<=((a2+3):Int)/\((a2+3):Int)< z.length)/\ai (decide ((bt z (Int.toNat (a2+3)))=46)) (aj (a2+4)/\iU 110 #[(.string (ab z)),(.int .i64 (a2+4))] β λμ ν=>R μ ν) (R (-1) β)) (R (-1) β)) (R (-1) w24)) (aj (a2+2)/\(0<=((a2+2):Int)/\((a2+2):Int)< z.length)/\ck 161 #[(.int .u8 (UInt8.toNat (bt z (Int.toNat (a2+2)))))] w24 λξ γ=>ai ξ (aj (a2+3)/\(0<=((a2+3):Int)/\((a2+3):Int)< z.length)/\ai (decide ((bt z (Int.toNat (a2+3)))=46)) (aj (a2+4)/\iU 110 #[(.string (ab z)),(.int .i64 (a2+4))] γ λο jm=>R ο jm) (R (-1) γ)) (R (-1) γ))) (R (-1) w24)) (R (-1) w24))))))))):
  Calls Tryz.prog 110 #[(.string (ab z)),(.int .i64 a2)] w (ax [.i] R):=
 bs (bn [] [] []) [.tmp 4 .i] [.s z,.i a2] Tryz.func110 (by kernel_rfl) h
theorem sF (z:ay)(w:World)(R:UInt8->World->Prop)(h:(0<=(0:Int)/\(0:Int)< z.length)/\iz (decide ((bt z (Int.toNat 0))=48)) (iz (decide ((bt z (Int.toNat 0))=42)) (iz (decide ((bt z (Int.toNat 0))=126)) (ai (decide ((bt z (Int.toNat 0))=35)) (R ((bt z (Int.toNat 0))) w) (ai (decide ((bt z (Int.toNat 0))=91)) (R 61 w) (ai (decide ((bt z (Int.toNat 0))=40)) (iU 110 #[(.string (ab z)),(.int .i64 1)] w λG H=>(0<=(G:Int)/\(G:Int)< z.length)/\R (bt z G.toNat) H) ((0<=(1:Int)/\(1:Int)< z.length)/\R ((bt z (Int.toNat 1))) w)))) (R ((bt z (Int.toNat 0))) w)) (R ((bt z (Int.toNat 0))) w)) (R ((bt z (Int.toNat 0))) w)):
  Calls Tryz.prog 120 #[(.string (ab z))] w (ax [.c] R):=
 bs (bn [] [] []) [.tmp 2 .c] [.s z] Tryz.func120 (by kernel_rfl) h
theorem tn (G:ay)(w:World)(R:Int->World->Prop)(h:gY 120 #[(.string (ab G))] w λc2 z=>ai (decide (c2=42)) (ai (decide (c2=42)) (R 1 z) (ai (decide (c2=126)) (R 2 z) (ai (decide (c2=35)) (R 3 z) (ai (decide (c2=61)) (R 5 z) (R 4 z))))) (ai (decide (c2=43)) (ai (decide (c2=43)) (R 1 z) (ai (decide (c2=126)) (R 2 z) (ai (decide (c2=35)) (R 3 z) (ai (decide (c2=61)) (R 5 z) (R 4 z))))) (ai (decide (c2=38)) (R 1 z) (ai (decide (c2=126)) (R 2 z) (ai (decide (c2=35)) (R 3 z) (ai (decide (c2=61)) (R 5 z) (R 4 z))))))):
  Calls Tryz.prog 165 #[(.string (ab G))] w (ax [.i] R):=
 bs (bn [] [] []) [.tmp 2 .i] [.s G] Tryz.func165 (by kernel_rfl) h
theorem qU (z:ay)(w:World)(R:Value->World->Prop)(h:gY 120 #[(.string (ab z))] w λc2 J=>ai (decide (c2=48)) (R (.slice none 0 0) J) (ai (decide (c2=43)) (ai (decide (c2=43)) (iU 110 #[(.string (ab z)),(.int .i64 1)] J λH w5=>bO w5 λS6 w7=>(0<=(1:Int)/\(1:Int)<=H/\(H:Int)<=z.length)/\aj (H+1)/\aj ((z.length:Int) - 1)/\(0<=((H+1):Int)/\((H+1):Int)<=((z.length:Int) - 1)/\(((z.length:Int) - 1):Int)<=z.length)/\aN w7 (.cells #[(.string (ab (List.drop (Int.toNat 1) (List.take H.toNat z)))),(.string (ab (List.drop (Int.toNat (H+1)) (List.take (Int.toNat ((z.length:Int) - 1)) z))))] 9) λb8 w9=>S6 w9/\R ((.slice (some ⟨b8,0,none⟩) 2 2)) w9) (iU 165 #[(.string (ab z))] J λn10 W=>(0<=(n10:Int)/\(n10:Int)<=z.length)/\aN W (.cells #[(.string (ab (List.drop n10.toNat z)))] 9) λZ α=>R ((.slice (some ⟨Z,0,none⟩) 1 1)) α)) (ai (decide (c2=38)) (iU 110 #[(.string (ab z)),(.int .i64 1)] J λG β=>bO β λγ δ=>(0<=(1:Int)/\(1:Int)<=G/\(G:Int)<=z.length)/\aj (G+1)/\aj ((z.length:Int) - 1)/\(0<=((G+1):Int)/\((G+1):Int)<=((z.length:Int) - 1)/\(((z.length:Int) - 1):Int)<=z.length)/\aN δ (.cells #[(.string (ab (List.drop (Int.toNat 1) (List.take G.toNat z)))),(.string (ab (List.drop (Int.toNat (G+1)) (List.take (Int.toNat ((z.length:Int) - 1)) z))))] 9) λb18 V=>γ V/\R ((.slice (some ⟨b18,0,none⟩) 2 2)) V) (iU 165 #[(.string (ab z))] J λI ε=>(0<=(I:Int)/\(I:Int)<=z.length)/\aN ε (.cells #[(.string (ab (List.drop I.toNat z)))] 9) λζ η=>R ((.slice (some ⟨ζ,0,none⟩) 1 1)) η)))):
  Calls Tryz.prog 117 #[(.string (ab z))] w (ax [.v] R):=
 bs (bn [] [] []) [.tmp 2 .v] [.s z] Tryz.func117 (by kernel_rfl) h
theorem tJ (V:ay)(w:World)(R:Int->World->Prop)(h:cB 117 #[(.string (ab V))] w λv2 w3=>bM v2 λl5=>CQ 1 0 w3 λI7 m8 I z G=>ai (decide (z< (l5:Int))) (aJ v2 z λW Z=>bZ G W (Z+z.toNat* 1) λα=>iU 111 #[(.string (ab α))] G λH J=>aj (I+H)/\aj (z+1)/\I7 (I+H) (z+1) J/\m8 (I+H) (z+1) J< m8 I z G) (R I G)):
  Calls Tryz.prog 111 #[(.string (ab V))] w (ax [.i] R):=
 bs (bn [(3,[(3,.i),(9,.i)])] [] []) [.tmp 2 .i] [.s V] Tryz.func111 (by kernel_rfl) h
theorem ry (z:ay)(w:World)(R:Bool->World->Prop)(h:eM 0 w λI H i4 G=>ai (decide (i4< (z.length:Int))) ((0<=(i4:Int)/\(i4:Int)< z.length)/\ai (decide (65<=(bt z i4.toNat))) ((0<=(i4:Int)/\(i4:Int)< z.length)/\iz (decide ((bt z i4.toNat)<=90)) ((0<=(i4:Int)/\(i4:Int)< z.length)/\ai (decide (128<=(bt z i4.toNat))) (R false G) (aj (i4+1)/\I (i4+1) G/\H (i4+1) G< H i4 G)) (R false G)) ((0<=(i4:Int)/\(i4:Int)< z.length)/\ai (decide (128<=(bt z i4.toNat))) (R false G) (aj (i4+1)/\I (i4+1) G/\H (i4+1) G< H i4 G))) (R true G)):
  Calls Tryz.prog 109 #[(.string (ab z))] w (ax [.b] R):=
 bs (bn [(2,[(3,.i)])] [] []) [.tmp 2 .b] [.s z] Tryz.func109 (by kernel_rfl) h
theorem tA (z:ay)(w:World)(R:Bool->World->Prop)(h:ai (decide ((z.length:Int)<=300)) (ck 109 #[(.string (ab z))] w λI G=>ai I (iU 110 #[(.string (ab z)),(.int .i64 0)] G λJ H=>ai (decide (J=(z.length:Int))) (iU 111 #[(.string (ab z))] H λV W=>R ((decide (V<=60))) W) (R false H)) (R false G)) (R false w)):
  Calls Tryz.prog 65 #[(.string (ab z))] w (ax [.b] R):=
 bs (bn [] [] []) [.tmp 2 .b] [.s z] Tryz.func65 (by kernel_rfl) h
theorem wM (s1:ay)(c2:UInt8)(w:World)(R:Bool->World->Prop)(h:eM 0 w λG m4 i5 z=>ai (decide (i5< (s1.length:Int))) ((0<=(i5:Int)/\(i5:Int)< s1.length)/\ai (decide ((bt s1 i5.toNat)=c2)) (R true z) (aj (i5+1)/\G (i5+1) z/\m4 (i5+1) z< m4 i5 z)) (R false z)):
  Calls Tryz.prog 56 #[(.string (ab s1)),(.int .u8 c2.toNat)] w (ax [.b] R):=
 bs (bn [(2,[(5,.i)])] [] []) [.tmp 4 .b] [.s s1,.c c2] Tryz.func56 (by kernel_rfl) h
theorem uv (s1:ay)(c2:UInt8)(w:World)(R:ay->World->Prop)(h:eM 0 w λI3 m4 z V=>ai (decide (z< (s1.length:Int))) ((0<=(z:Int)/\(z:Int)< s1.length)/\ai (decide ((bt s1 z.toNat)< c2)) (aj (z+1)/\I3 (z+1) V/\m4 (z+1) V< m4 z V) (ai (decide (z< (s1.length:Int))) ((0<=(z:Int)/\(z:Int)< s1.length)/\ai (decide ((bt s1 z.toNat)=c2)) (R s1 V) (bO V λS7 w8=>(0<=(z:Int)/\(z:Int)<=s1.length)/\(0<=(z:Int)/\(z:Int)<=s1.length)/\aN w8 (.cells #[(.int .u8 c2.toNat)] 5) λb9 W=>S7 W/\∃(γ δ ε χ:Nat) (G:ay),(Value.slice (some ⟨b9,0,none⟩) 1 1)= .slice (some ⟨γ,δ,none⟩) ε χ/\G.length=ε/\(∀(j:Nat) (x:UInt8),G[j]?=some x->World.cell? W ⟨γ,δ+j,none⟩=some (.int .u8 x.toNat))/\S7 W/\(List.length (List.take z.toNat s1)+G.length<=4611686018427387904)/\(List.length ((List.take z.toNat s1)++G)+List.length (List.drop z.toNat s1)<=4611686018427387904)/\R ((((List.take z.toNat s1)++G)++(List.drop z.toNat s1))) W)) (bO V λζ ψ=>(0<=(z:Int)/\(z:Int)<=s1.length)/\(0<=(z:Int)/\(z:Int)<=s1.length)/\aN ψ (.cells #[(.int .u8 c2.toNat)] 5) λb18 Z=>ζ Z/\∃(η θ ι ω:Nat) (H:ay),(Value.slice (some ⟨b18,0,none⟩) 1 1)= .slice (some ⟨η,θ,none⟩) ι ω/\H.length=ι/\(∀(j:Nat) (x:UInt8),H[j]?=some x->World.cell? Z ⟨η,θ+j,none⟩=some (.int .u8 x.toNat))/\ζ Z/\(List.length (List.take z.toNat s1)+H.length<=4611686018427387904)/\(List.length ((List.take z.toNat s1)++H)+List.length (List.drop z.toNat s1)<=4611686018427387904)/\R ((((List.take z.toNat s1)++H)++(List.drop z.toNat s1))) Z))) (ai (decide (z< (s1.length:Int))) ((0<=(z:Int)/\(z:Int)< s1.length)/\ai (decide ((bt s1 z.toNat)=c2)) (R s1 V) (bO V λκ w26=>(0<=(z:Int)/\(z:Int)<=s1.length)/\(0<=(z:Int)/\(z:Int)<=s1.length)/\aN w26 (.cells #[(.int .u8 c2.toNat)] 5) λb27 α=>κ α/\∃(μ ν ξ c32:Nat) (I:ay),(Value.slice (some ⟨b27,0,none⟩) 1 1)= .slice (some ⟨μ,ν,none⟩) ξ c32/\I.length=ξ/\(∀(j:Nat) (x:UInt8),I[j]?=some x->World.cell? α ⟨μ,ν+j,none⟩=some (.int .u8 x.toNat))/\κ α/\(List.length (List.take z.toNat s1)+I.length<=4611686018427387904)/\(List.length ((List.take z.toNat s1)++I)+List.length (List.drop z.toNat s1)<=4611686018427387904)/\R ((((List.take z.toNat s1)++I)++(List.drop z.toNat s1))) α)) (bO V λο w35=>(0<=(z:Int)/\(z:Int)<=s1.length)/\(0<=(z:Int)/\(z:Int)<=s1.length)/\aN w35 (.cells #[(.int .u8 c2.toNat)] 5) λb36 β=>ο β/\∃(ς υ φ c41:Nat) (J:ay),(Value.slice (some ⟨b36,0,none⟩) 1 1)= .slice (some ⟨ς,υ,none⟩) φ c41/\J.length=φ/\(∀(j:Nat) (x:UInt8),J[j]?=some x->World.cell? β ⟨ς,υ+j,none⟩=some (.int .u8 x.toNat))/\ο β/\(List.length (List.take z.toNat s1)+J.length<=4611686018427387904)/\(List.length ((List.take z.toNat s1)++J)+List.length (List.drop z.toNat s1)<=4611686018427387904)/\R ((((List.take z.toNat s1)++J)++(List.drop z.toNat s1))) β))):
  Calls Tryz.prog 121 #[(.string (ab s1)),(.int .u8 c2.toNat)] w (ax [.s] R):=
 bs (bn [(2,[(5,.i)])] [] []) [.tmp 4 .s] [.s s1,.c c2] Tryz.func121 (by kernel_rfl) h
theorem sS (s1:ay)(c2:UInt8)(w:World)(R:ay->World->Prop)(h:kY ([]) 0 w λH m4 z i6 G=>ai (decide (i6< (s1.length:Int))) ((0<=(i6:Int)/\(i6:Int)< s1.length)/\ai (!decide ((bt s1 i6.toNat)=c2)) (aj (i6+1)/\(0<=(i6:Int)/\(i6:Int)<=(i6+1)/\((i6+1):Int)<=s1.length)/\(z.length+List.length (List.drop i6.toNat (List.take (Int.toNat (i6+1)) s1))<=4611686018427387904)/\aj (i6+1)/\H ((z++(List.drop i6.toNat (List.take (Int.toNat (i6+1)) s1)))) (i6+1) G/\m4 ((z++(List.drop i6.toNat (List.take (Int.toNat (i6+1)) s1)))) (i6+1) G< m4 z i6 G) (aj (i6+1)/\H z (i6+1) G/\m4 z (i6+1) G< m4 z i6 G)) (R z G)):
  Calls Tryz.prog 119 #[(.string (ab s1)),(.int .u8 c2.toNat)] w (ax [.s] R):=
 bs (bn [(3,[(5,.s),(6,.i)])] [] []) [.tmp 4 .s] [.s s1,.c c2] Tryz.func119 (by kernel_rfl) h
theorem sC (s1:ay)(t2:ay)(w:World)(R:ay->World->Prop)(h:kY s1 0 w λJ m4 z i6 G=>ai (decide (i6< (t2.length:Int))) ((0<=(i6:Int)/\(i6:Int)< t2.length)/\bw 121 #[(.string (ab z)),(.int .u8 (UInt8.toNat (bt t2 i6.toNat)))] G λH I=>aj (i6+1)/\J H (i6+1) I/\m4 H (i6+1) I< m4 z i6 G) (R z G)):
  Calls Tryz.prog 104 #[(.string (ab s1)),(.string (ab t2))] w (ax [.s] R):=
 bs (bn [(2,[(0,.s),(5,.i)])] [] []) [.tmp 4 .s] [.s s1,.s t2] Tryz.func104 (by kernel_rfl) h
theorem ri (z:ay)(w:World)(R:UInt8->Bool->World->Prop)(h:gY 120 #[(.string (ab z))] w λc2 G=>ai (decide (c2=63)) ((0<=(2:Int)/\(2:Int)< z.length)/\R ((bt z (Int.toNat 2))) true G) (ai (decide (c2=35)) ((0<=(1:Int)/\(1:Int)< z.length)/\R ((bt z (Int.toNat 1))) true G) (R 0 false G))):
  Calls Tryz.prog 118 #[(.string (ab z))] w (ax [.c,.b] R):=
 bs (bn [] [] []) [.tmp 2 .c,.tmp 3 .b] [.s z] Tryz.func118 (by kernel_rfl) h
theorem tf (z:ay)(w:World)(R:ay->World->Prop)(h:cB 117 #[(.string (ab z))] w λv2 w3=>bM v2 λl5=>kY ([]) 0 w3 λI7 m8 o9 G I=>ai (decide (G< (l5:Int))) (aJ v2 G λι κ=>bZ I ι (κ+G.toNat* 1) λμ=>bw 76 #[(.string (ab μ))] I λν ξ=>bw 104 #[(.string (ab o9)),(.string (ab ν))] ξ λZ α=>aj (G+1)/\I7 Z (G+1) α/\m8 Z (G+1) α< m8 o9 G I) (∃V:ay->World->Prop,(Fu 118 #[(.string (ab z))] I λο ς w24=>ai ς (bw 119 #[(.string (ab o9)),(.int .u8 ο.toNat)] w24 λυ φ=>V υ φ) (V o9 w24))/\∀(H:ay) (β:World),V H β->gY 120 #[(.string (ab z))] β λW J=>ai (decide (W=33)) (bO J λγ jm=>(0<=(0:Int)/\(0:Int)< z.length)/\(0<=(2:Int)/\(2:Int)< z.length)/\bw 121 #[(.string (ab H)),(.int .u8 (UInt8.toNat (bt z (Int.toNat 0))))] jm λχ δ=>γ δ/\bw 121 #[(.string (ab χ)),(.int .u8 (UInt8.toNat (bt z (Int.toNat 2))))] δ λψ ε=>γ ε/\R ψ ε) (ai (decide (W=63)) ((0<=(0:Int)/\(0:Int)< z.length)/\bw 121 #[(.string (ab H)),(.int .u8 (UInt8.toNat (bt z (Int.toNat 0))))] J λω w38=>R ω w38) (ai (decide (W=61)) (bO J λζ w40=>(0<=(1:Int)/\(1:Int)< z.length)/\(0<=(3:Int)/\(3:Int)< z.length)/\bw 121 #[(.string (ab H)),(.int .u8 (UInt8.toNat (bt z (Int.toNat 1))))] w40 λs41 η=>ζ η/\bw 121 #[(.string (ab s41)),(.int .u8 (UInt8.toNat (bt z (Int.toNat 3))))] η λs43 θ=>ζ θ/\R s43 θ) (R H J))))):
  Calls Tryz.prog 76 #[(.string (ab z))] w (ax [.s] R):=
 bs (bn [(3,[(3,.s),(11,.i)])] [(10,[(3,.s)])] []) [.tmp 2 .s] [.s z] Tryz.func76 (by kernel_rfl) h
theorem re (t1:ay)(w:World)(R:UInt8->World->Prop)(h:Ir 97 w λI2 W c4 I=>ai (decide (c4<=122)) (ck 56 #[(.string (ab t1)),(.int .u8 c4.toNat)] I λq6 J=>ai (!q6) (R c4 J) (I2 (c4+1:UInt8) J/\W (c4+1:UInt8) J< W c4 I)) (Ir 128 I λI8 Z z G=>ai (decide (z< 191)) (ck 56 #[(.string (ab t1)),(.int .u8 z.toNat)] G λV H=>ai V (I8 (z+1:UInt8) H/\Z (z+1:UInt8) H< Z z G) (R z H)) (R z G))):
  Calls Tryz.prog 75 #[(.string (ab t1))] w (ax [.c] R):=
 bs (bn [(2,[(3,.c)]),(7,[(4,.c)])] [] []) [.tmp 2 .c] [.s t1] Tryz.func75 (by kernel_rfl) h
theorem sO (c1:UInt8)(z:UInt8)(G:UInt8)(w:World)(R:UInt8->World->Prop)(h:ai (decide (c1=z)) (R G w) (R c1 w)):
  Calls Tryz.prog 192 #[(.int .u8 c1.toNat),(.int .u8 z.toNat),(.int .u8 G.toNat)] w (ax [.c] R):=
 bs (bn [] [] []) [.tmp 6 .c] [.c c1,.c z,.c G] Tryz.func192 (by kernel_rfl) h
theorem qv (z:ay)(J:UInt8)(n3:UInt8)(w:World)(R:ay->World->Prop)(h:iz (decide (J=n3)) (bw 76 #[(.string (ab z))] w λs4 w5=>ck 56 #[(.string (ab s4)),(.int .u8 J.toNat)] w5 λq6 w7=>ai (!q6) (R z w7) (iU 165 #[(.string (ab z))] w7 λV w9=>(0<=(V:Int)/\(V:Int)<=z.length)/\∀(b10 G:Nat) (w12:World),b10=Array.size (World.heap w9)->iC w12 5 b10 (List.take V.toNat z)->World.grownBy w9 w12 none->Fu 118 #[(.string (ab z))] w12 λξ q14 w15=>ai q14 (bM (.slice (some ⟨b10,0,none⟩) (List.length (List.take V.toNat z)) G) λα=>(0<=((α:Int):Int)/\((α:Int):Int)<=z.length)/\∃ο:ay->UInt8->World->Prop,(ai (decide (ξ=n3)) (bw 76 #[(.string (ab (List.drop (Int.toNat (α:Int)) z)))] w15 λs20 w21=>ck 56 #[(.string (ab s20)),(.int .u8 J.toNat)] w21 λq22 w23=>ai q22 (∃ς:UInt8->World->Prop,(bO w23 λH w26=>(bw 76 #[(.string (ab (List.drop (Int.toNat (α:Int)) z)))] w26 λs27 w28=>H w28/\aN w28 (.cells #[(.int .u8 J.toNat),(.int .u8 n3.toNat)] 5) λb29 υ=>H υ/\∃(b31 o32 n33 c34:Nat) (l35:ay),(Value.slice (some ⟨b29,0,none⟩) 2 2)= .slice (some ⟨b31,o32,none⟩) n33 c34/\l35.length=n33/\(∀(j:Nat) (x:UInt8),l35[j]?=some x->World.cell? υ ⟨b31,o32+j,none⟩=some (.int .u8 x.toNat))/\H υ/\bw 104 #[(.string (ab s27)),(.string (ab l35))] υ λs36 w37=>H w37/\gY 75 #[(.string (ab s36))] w37 λc38 w39=>H w39/\ς c38 w39)/\(aN w26 (.cells #[(.int .u8 J.toNat),(.int .u8 n3.toNat)] 5) λb40 μ=>H μ/\(bw 76 #[(.string (ab (List.drop (Int.toNat (α:Int)) z)))] μ λs42 φ=>H φ/\∃(b44 o45 n46 c47:Nat) (l48:ay),(Value.slice (some ⟨b40,0,none⟩) 2 2)= .slice (some ⟨b44,o45,none⟩) n46 c47/\l48.length=n46/\(∀(j:Nat) (x:UInt8),l48[j]?=some x->World.cell? φ ⟨b44,o45+j,none⟩=some (.int .u8 x.toNat))/\H φ/\bw 104 #[(.string (ab s42)),(.string (ab l48))] φ λs49 w50=>H w50/\gY 75 #[(.string (ab s49))] w50 λc51 w52=>H w52/\ς c51 w52)/\(∃(b53 o54 n55 c56:Nat) (l57:ay),(Value.slice (some ⟨b40,0,none⟩) 2 2)= .slice (some ⟨b53,o54,none⟩) n55 c56/\l57.length=n55/\(∀(j:Nat) (x:UInt8),l57[j]?=some x->World.cell? μ ⟨b53,o54+j,none⟩=some (.int .u8 x.toNat))/\H μ/\bw 76 #[(.string (ab (List.drop (Int.toNat (α:Int)) z)))] μ λs58 w59=>H w59/\bw 104 #[(.string (ab s58)),(.string (ab l57))] w59 λs60 w61=>H w61/\gY 75 #[(.string (ab s60))] w61 λc62 w63=>H w63/\ς c62 w63)))/\∀(y64:UInt8) (w65:World),ς y64 w65->bw 153 #[(.string (ab (List.drop (Int.toNat (α:Int)) z))),(.int .u8 ξ.toNat),(.int .u8 y64.toNat)] w65 λs66 w67=>ο s66 y64 w67) (ο ((List.drop (Int.toNat (α:Int)) z)) ξ w23)) (ο ((List.drop (Int.toNat (α:Int)) z)) ξ w15))/\∀(p68:ay) (χ:UInt8) (w70:World),ο p68 χ w70->∃J71:ay->World->Prop,(ai (!decide (χ=J)) (bw 153 #[(.string (ab p68)),(.int .u8 J.toNat),(.int .u8 n3.toNat)] w70 λs72 w73=>J71 s72 w73) (J71 p68 w70))/\∀(p74:ay) (w75:World),J71 p74 w75->∃J76:World->Prop,(gY 120 #[(.string (ab z))] w75 λc77 w78=>ai (decide (c77=63)) (aJ (.slice (some ⟨b10,0,none⟩) (List.length (List.take V.toNat z)) G) 0 λb79 o80=>gg w78 b79 (o80+Int.toNat 0* 1) λc83=>gY 192 #[(.int .u8 c83.toNat),(.int .u8 J.toNat),(.int .u8 n3.toNat)] w78 λc84 w85=>aJ (.slice (some ⟨b10,0,none⟩) (List.length (List.take V.toNat z)) G) 0 λb86 o87=>bg w85 b86 (o87+Int.toNat 0* 1) (.int .u8 c84.toNat) λw91=>aJ (.slice (some ⟨b10,0,none⟩) (List.length (List.take V.toNat z)) G) 2 λb92 o93=>bg w91 b92 (o93+Int.toNat 2* 1) (.int .u8 χ.toNat) λw97=>J76 w97) (aJ (.slice (some ⟨b10,0,none⟩) (List.length (List.take V.toNat z)) G) 1 λb98 o99=>bg w78 b98 (o99+Int.toNat 1* 1) (.int .u8 χ.toNat) λw103=>J76 w103))/\∀(ν:World),J76 ν->∃(b105 ψ n107 c108:Nat) (δ:ay),(Value.slice (some ⟨b10,0,none⟩) (List.length (List.take V.toNat z)) G)= .slice (some ⟨b105,ψ,none⟩) n107 c108/\δ.length=n107/\(∀(j:Nat) (x:UInt8),δ[j]?=some x->World.cell? ν ⟨b105,ψ+j,none⟩=some (.int .u8 x.toNat))/\(δ.length+p74.length<=4611686018427387904)/\R (δ++p74) ν) (∃β:World->Prop,(gY 120 #[(.string (ab z))] w15 λγ I=>ai (decide (γ=33)) (aJ (.slice (some ⟨b10,0,none⟩) (List.length (List.take V.toNat z)) G) 0 λb113 o114=>gg I b113 (o114+Int.toNat 0* 1) λc117=>gY 192 #[(.int .u8 c117.toNat),(.int .u8 J.toNat),(.int .u8 n3.toNat)] I λc118 w119=>aJ (.slice (some ⟨b10,0,none⟩) (List.length (List.take V.toNat z)) G) 0 λb120 o121=>bg w119 b120 (o121+Int.toNat 0* 1) (.int .u8 c118.toNat) λω=>aJ (.slice (some ⟨b10,0,none⟩) (List.length (List.take V.toNat z)) G) 2 λb126 o127=>gg ω b126 (o127+Int.toNat 2* 1) λc130=>gY 192 #[(.int .u8 c130.toNat),(.int .u8 J.toNat),(.int .u8 n3.toNat)] ω λc131 w132=>aJ (.slice (some ⟨b10,0,none⟩) (List.length (List.take V.toNat z)) G) 2 λb133 o134=>bg w132 b133 (o134+Int.toNat 2* 1) (.int .u8 c131.toNat) λw138=>β w138) (ai (decide (γ=61)) (aJ (.slice (some ⟨b10,0,none⟩) (List.length (List.take V.toNat z)) G) 1 λb139 o140=>gg I b139 (o140+Int.toNat 1* 1) λc143=>gY 192 #[(.int .u8 c143.toNat),(.int .u8 J.toNat),(.int .u8 n3.toNat)] I λc144 w145=>aJ (.slice (some ⟨b10,0,none⟩) (List.length (List.take V.toNat z)) G) 1 λb146 o147=>bg w145 b146 (o147+Int.toNat 1* 1) (.int .u8 c144.toNat) λw151=>aJ (.slice (some ⟨b10,0,none⟩) (List.length (List.take V.toNat z)) G) 3 λb152 o153=>gg w151 b152 (o153+Int.toNat 3* 1) λc156=>gY 192 #[(.int .u8 c156.toNat),(.int .u8 J.toNat),(.int .u8 n3.toNat)] w151 λc157 w158=>aJ (.slice (some ⟨b10,0,none⟩) (List.length (List.take V.toNat z)) G) 3 λb159 o160=>bg w158 b159 (o160+Int.toNat 3* 1) (.int .u8 c157.toNat) λw164=>β w164) (ai (decide (γ=43)) (ai (decide (γ=43)) (cB 117 #[(.string (ab z))] I λv165 w166=>bO w166 λW w168=>aJ v165 0 λb169 o170=>iq W b169 (o170+Int.toNat 0* 1) λs173=>aJ v165 1 λb174 o175=>iq W b174 (o175+Int.toNat 1* 1) λs178=>bw 153 #[(.string (ab s173)),(.int .u8 J.toNat),(.int .u8 n3.toNat)] w168 λs179 w180=>W w180/\bw 153 #[(.string (ab s178)),(.int .u8 J.toNat),(.int .u8 n3.toNat)] w180 λs181 w182=>W w182/\aN w182 (.cells #[(.string (ab s179)),(.string (ab s181))] 9) λb183 w184=>W w184/\bw 193 #[(.string (ab z)),(.slice (some ⟨b183,0,none⟩) 2 2)] w184 λs185 w186=>W w186/\R s185 w186) (β I)) (ai (decide (γ=38)) (cB 117 #[(.string (ab z))] I λv187 w188=>bO w188 λZ w190=>aJ v187 0 λb191 o192=>iq Z b191 (o192+Int.toNat 0* 1) λs195=>aJ v187 1 λb196 o197=>iq Z b196 (o197+Int.toNat 1* 1) λs200=>bw 153 #[(.string (ab s195)),(.int .u8 J.toNat),(.int .u8 n3.toNat)] w190 λs201 w202=>Z w202/\bw 153 #[(.string (ab s200)),(.int .u8 J.toNat),(.int .u8 n3.toNat)] w202 λs203 w204=>Z w204/\aN w204 (.cells #[(.string (ab s201)),(.string (ab s203))] 9) λb205 w206=>Z w206/\bw 193 #[(.string (ab z)),(.slice (some ⟨b205,0,none⟩) 2 2)] w206 λs207 w208=>Z w208/\R s207 w208) (β I)))))/\∀(w209:World),β w209->bO w209 λε ζ=>bM (.slice (some ⟨b10,0,none⟩) (List.length (List.take V.toNat z)) G) λη=>(0<=((η:Int):Int)/\((η:Int):Int)<=z.length)/\(∃(b215 o216 n217 c218:Nat) (θ:ay),(Value.slice (some ⟨b10,0,none⟩) (List.length (List.take V.toNat z)) G)= .slice (some ⟨b215,o216,none⟩) n217 c218/\θ.length=n217/\(∀(j:Nat) (x:UInt8),θ[j]?=some x->World.cell? ζ ⟨b215,o216+j,none⟩=some (.int .u8 x.toNat))/\ε ζ/\bw 153 #[(.string (ab (List.drop (Int.toNat (η:Int)) z))),(.int .u8 J.toNat),(.int .u8 n3.toNat)] ζ λs220 w221=>ε w221/\(θ.length+s220.length<=4611686018427387904)/\R (θ++s220) w221)/\(bw 153 #[(.string (ab (List.drop (Int.toNat (η:Int)) z))),(.int .u8 J.toNat),(.int .u8 n3.toNat)] ζ λs222 ι=>ε ι/\∃(b224 o225 n226 c227:Nat) (κ:ay),(Value.slice (some ⟨b10,0,none⟩) (List.length (List.take V.toNat z)) G)= .slice (some ⟨b224,o225,none⟩) n226 c227/\κ.length=n226/\(∀(j:Nat) (x:UInt8),κ[j]?=some x->World.cell? ι ⟨b224,o225+j,none⟩=some (.int .u8 x.toNat))/\ε ι/\(κ.length+s222.length<=4611686018427387904)/\R (κ++s222) ι)))) (R z w)):
  Calls Tryz.prog 153 #[(.string (ab z)),(.int .u8 J.toNat),(.int .u8 n3.toNat)] w (ax [.s] R):=
 bs (bn [] [(10,[(11,.c)]),(12,[(8,.s),(9,.c)]),(14,[(8,.s)]),(18,[]),(30,[])] []) [.tmp 6 .s] [.s z,.c J,.c n3] Tryz.func153 (by kernel_rfl) h
theorem ru (z:ay)(w:World)(R:ay->World->Prop)(h:gY 120 #[(.string (ab z))] w λc2 G=>ai (decide (c2=33)) (bO G λJ H=>(0<=(0:Int)/\(0:Int)<=1/\(1:Int)<=z.length)/\(0<=(2:Int)/\(2:Int)<=3/\(3:Int)<=z.length)/\(List.length (List.drop (Int.toNat 0) (List.take (Int.toNat 1) z))+List.length (List.drop (Int.toNat 2) (List.take (Int.toNat 3) z))<=4611686018427387904)/\R (((List.drop (Int.toNat 0) (List.take (Int.toNat 1) z))++(List.drop (Int.toNat 2) (List.take (Int.toNat 3) z)))) H) (ai (decide (c2=63)) ((0<=(0:Int)/\(0:Int)<=1/\(1:Int)<=z.length)/\R ((List.drop (Int.toNat 0) (List.take (Int.toNat 1) z))) G) (ai (decide (c2=61)) (bO G λV I=>(0<=(1:Int)/\(1:Int)<=2/\(2:Int)<=z.length)/\(0<=(3:Int)/\(3:Int)<=4/\(4:Int)<=z.length)/\(List.length (List.drop (Int.toNat 1) (List.take (Int.toNat 2) z))+List.length (List.drop (Int.toNat 3) (List.take (Int.toNat 4) z))<=4611686018427387904)/\R (((List.drop (Int.toNat 1) (List.take (Int.toNat 2) z))++(List.drop (Int.toNat 3) (List.take (Int.toNat 4) z)))) I) (R ([]) G)))):
  Calls Tryz.prog 247 #[(.string (ab z))] w (ax [.s] R):=
 bs (bn [] [] []) [.tmp 2 .s] [.s z] Tryz.func247 (by kernel_rfl) h
theorem tw (I:ay)(J:Value)(w:World)(R:ay->World->Prop)(h:gY 120 #[(.string (ab I))] w λc3 w4=>ai (decide (c3=48)) (R I w4) (ai (decide (c3=43)) (bO w4 λS5 w6=>aJ J 0 λb7 o8=>iq S5 b7 (o8+Int.toNat 0* 1) λz=>(List.length [40]+z.length<=4611686018427387904)/\(List.length ([40]++z)+List.length [43]<=4611686018427387904)/\aJ J 1 λδ ε=>iq S5 δ (ε+Int.toNat 1* 1) λV=>(List.length (([40]++z)++[43])+V.length<=4611686018427387904)/\(List.length ((([40]++z)++[43])++V)+List.length [41]<=4611686018427387904)/\R ((((([40]++z)++[43])++V)++[41])) w6) (ai (decide (c3=38)) (bO w4 λZ ζ=>aJ J 0 λη θ=>iq Z η (θ+Int.toNat 0* 1) λG=>(List.length [40]+G.length<=4611686018427387904)/\(List.length ([40]++G)+List.length [38]<=4611686018427387904)/\aJ J 1 λι κ=>iq Z ι (κ+Int.toNat 1* 1) λW=>(List.length (([40]++G)++[38])+W.length<=4611686018427387904)/\(List.length ((([40]++G)++[38])++W)+List.length [41]<=4611686018427387904)/\R ((((([40]++G)++[38])++W)++[41])) ζ) (bO w4 λα μ=>aJ J 0 λν ξ=>iq α ν (ξ+Int.toNat 0* 1) λβ=>iU 165 #[(.string (ab I))] μ λH γ=>α γ/\(0<=(H:Int)/\(H:Int)<=I.length)/\(List.length (List.take H.toNat I)+β.length<=4611686018427387904)/\R (((List.take H.toNat I)++β)) γ)))):
  Calls Tryz.prog 193 #[(.string (ab I)),J] w (ax [.s] R):=
 bs (bn [] [] []) [.tmp 4 .s] [.s I,.v J] Tryz.func193 (by kernel_rfl) h
theorem oS (W:ay)(w:World)(R:Bool->World->Prop)(h:cB 117 #[(.string (ab W))] w λv2 w3=>bM v2 λl5=>eM 0 w3 λI7 Z x9 z=>ai (decide (x9< (l5:Int))) (aJ v2 x9 λα β=>bZ z α (β+x9.toNat* 1) λG=>gY 120 #[(.string (ab W))] z λc16 J=>ai (decide (c16=43)) (gY 120 #[(.string (ab G))] J λc18 γ=>ck 56 #[(.string (ab [33,63,126,43,48])),(.int .u8 c18.toNat)] γ λδ V=>iz (!δ) (ck 112 #[(.string (ab G))] V λε H=>ai (!ε) (R false H) (aj (x9+1)/\I7 (x9+1) H/\Z (x9+1) H< Z x9 z)) (R false V)) (ck 112 #[(.string (ab G))] J λζ I=>ai (!ζ) (R false I) (aj (x9+1)/\I7 (x9+1) I/\Z (x9+1) I< Z x9 z))) (R true z)):
  Calls Tryz.prog 112 #[(.string (ab W))] w (ax [.b] R):=
 bs (bn [(2,[(8,.i)])] [] []) [.tmp 2 .b] [.s W] Tryz.func112 (by kernel_rfl) h
theorem pP (W:ay)(w:World)(R:Bool->World->Prop)(h:cB 117 #[(.string (ab W))] w λv2 w3=>bM v2 λl5=>eM 0 w3 λI7 Z x9 z=>ai (decide (x9< (l5:Int))) (aJ v2 x9 λα β=>bZ z α (β+x9.toNat* 1) λG=>gY 120 #[(.string (ab W))] z λc16 J=>ai (decide (c16=42)) (gY 120 #[(.string (ab G))] J λc18 V=>iz (!decide (c18=63)) (ck 113 #[(.string (ab G))] V λγ H=>ai (!γ) (R false H) (aj (x9+1)/\I7 (x9+1) H/\Z (x9+1) H< Z x9 z)) (R false V)) (ck 113 #[(.string (ab G))] J λδ I=>ai (!δ) (R false I) (aj (x9+1)/\I7 (x9+1) I/\Z (x9+1) I< Z x9 z))) (R true z)):
  Calls Tryz.prog 113 #[(.string (ab W))] w (ax [.b] R):=
 bs (bn [(2,[(8,.i)])] [] []) [.tmp 2 .b] [.s W] Tryz.func113 (by kernel_rfl) h
theorem pQ (z:ay)(w:World)(R:Bool->World->Prop)(h:ck 112 #[(.string (ab z))] w λH G=>ai H (ck 113 #[(.string (ab z))] G λI J=>R I J) (R false G)):
  Calls Tryz.prog 66 #[(.string (ab z))] w (ax [.b] R):=
 bs (bn [] [] []) [.tmp 2 .b] [.s z] Tryz.func66 (by kernel_rfl) h
theorem vK (z:ay)(w:World)(R:ay->Bool->World->Prop)(h:ck 65 #[(.string (ab z))] w λH G=>ai (!H) (R ([]) false G) (R z true G)):
  Calls Tryz.prog 190 #[(.string (ab z))] w (ax [.s,.b] R):=
 bs (bn [] [] []) [.tmp 2 .s,.tmp 3 .b] [.s z] Tryz.func190 (by kernel_rfl) h
end Go.Proofs.YtdecokaadekjnaaGreat
namespace Go.Proofs.YtdecokaadekjnaaGreat
inductive T (N:Type) where
 | nil
 | snd (a b:N) (p:T N)
 | rcv (a x:N) (p:T N)
 | tau (p:T N)
 | sum (p q:T N)
 | par (p q:T N)
 | res (x:N) (p:T N)
 | mat (a b:N) (p:T N)
 | rep (p:T N)
def aF {A V:Type}[DecidableEq A](ρ:A->V)(x:A)(v:V):A->V:=λy=>if y=x then v else ρ y
section
variable {A B C:Type} [DecidableEq A] [DecidableEq B] [DecidableEq C]
theorem df (ρ:A->Nat)(x:A)(v:Nat):aF ρ x v x=v:=by simp [aF]
theorem bS (ρ:A->Nat){x y:A}(v:Nat)(h:y≠x):aF ρ x v y=ρ y:=by simp [aF,h]
namespace T
def Fr (x:A):T A->Prop
 | nil=>False
 | snd a b p=>x=a\/x=b\/p.Fr x
 | rcv a y p=>x=a\/(x≠y/\p.Fr x)
 | tau p=>p.Fr x
 | sum p q=>p.Fr x\/q.Fr x
 | par p q=>p.Fr x\/q.Fr x
 | res y p=>x≠y/\p.Fr x
 | mat a b p=>x=a\/x=b\/p.Fr x
 | rep p=>p.Fr x
def dead:T A->Bool
 | nil=>true | snd .. =>false | rcv .. =>false | tau _=>false
 | sum p q=>p.dead&&q.dead
 | par p q=>p.dead&&q.dead
 | res _ p=>p.dead | mat _ _ p=>p.dead | rep p=>p.dead
def Us (x:A):T A->Prop
 | nil=>False
 | snd a b p=>x=a\/x=b\/p.Us x
 | rcv a y p=>x=a\/(x≠y/\p.Us x)
 | tau p=>p.Us x
 | sum p q=>p.Us x\/q.Us x
 | par p q=>p.Us x\/q.Us x
 | res y p=>x≠y/\p.Us x
 | mat a b p=>(a=b/\p.Us x)\/(a≠b/\p.dead=false/\(x=a\/x=b\/p.Us x))
 | rep p=>p.Us x
def size:T A->Nat
 | nil=>1 | snd _ _ p=>p.size+1 | rcv _ _ p=>p.size+1 | tau p=>p.size+1 | sum p q=>p.size+q.size+1
 | par p q=>p.size+q.size+1 | res _ p=>p.size+1 | mat _ _ p=>p.size+1 | rep p=>p.size+1
theorem bG {A:Type}{x:A}:∀{p:T A},p.Us x->p.Fr x
 | snd a b p,h=>by simp only [Us,Fr]at*;exact h.imp id λh=>h.imp id bG
 | rcv a y p,h=>by simp only [Us,Fr]at*;exact h.imp id λh=>h.imp id bG
 | tau p,h=>bG (p:=p) h
 | sum p q,h=>Or.imp bG bG h
 | par p q,h=>Or.imp bG bG h
 | res y p,h=>And.imp id bG h
 | mat a b p,h=>by
  simp only [Us,Fr]at*;rcases h with⟨_,h⟩ | ⟨_,_,h⟩
  ·exact .inr (.inr (bG h))
  ·exact h.imp id λh=>h.imp id bG
 | rep p,h=>bG (p:=p) h
theorem bI {A:Type}{x:A}:∀{p:T A},p.dead=true->¬p.Us x
 | nil,_,h=>h
 | snd ..,hd,_=>by cases hd
 | rcv ..,hd,_=>by cases hd
 | tau ..,hd,_=>by cases hd
 | sum p q,hd,h=>by
  simp only [dead,J3]at hd;exact h.elim (bI hd.1) (bI hd.2)
 | par p q,hd,h=>by
  simp only [dead,J3]at hd;exact h.elim (bI hd.1) (bI hd.2)
 | res y p,hd,h=>bI (p:=p) hd h.2
 | mat a b p,hd,h=>by
  simp only [dead]at hd;rcases h with⟨_,h⟩ | ⟨_,h,_⟩
  ·exact bI hd h
  ·rw [hd]at h;cases h
 | rep p,hd,h=>bI (p:=p) hd h
end T
def AE:(A->Nat)->T A->(B->Nat)->T B->Prop
 | _,.nil,_,.nil=>True
 | ρ,.snd a b p,σ,.snd c d q=>ρ a=σ c/\ρ b=σ d/\AE ρ p σ q
 | ρ,.rcv a x p,σ,.rcv c y q=>ρ a=σ c/\∀v,AE (aF ρ x v) p (aF σ y v) q
 | ρ,.tau p,σ,.tau q=>AE ρ p σ q
 | ρ,.sum p z,σ,.sum q G=>AE ρ p σ q/\AE ρ z σ G
 | ρ,.par p z,σ,.par q G=>AE ρ p σ q/\AE ρ z σ G
 | ρ,.res x p,σ,.res y q=>∀v,AE (aF ρ x v) p (aF σ y v) q
 | ρ,.mat a b p,σ,.mat c d q=>ρ a=σ c/\ρ b=σ d/\AE ρ p σ q
 | ρ,.rep p,σ,.rep q=>AE ρ p σ q
 | _,_,_,_=>False
theorem mC {p:T A}{ρ ρ':A->Nat}{x:A}(v:Nat)(h:∀z,z≠x->p.Fr z->ρ z=ρ' z)(z:A)(H:p.Fr z):aF ρ x v z=aF ρ' x v z:=by
 unfold aF;split
 ·rfl
 ·rename_i G;exact h z G H
theorem AE.congr:∀{p:T A} {q:T B} {ρ ρ':A->Nat} {σ J:B->Nat},AE ρ p σ q->(∀x,p.Fr x->ρ x=ρ' x)->(∀y,q.Fr y->σ y=J y)->AE ρ' p J q:=by
 intro p
 induction p<;>intro q ρ ρ' σ J h H h2<;>cases q<;>simp only [AE]at h|-
 case snd.snd I _ _ _=>
  exact⟨by rw [<-H _ (.inl rfl),<-h2 _ (.inl rfl)];exact h.1,by rw [<-H _ (.inr (.inl rfl)),<-h2 _ (.inr (.inl rfl))];exact h.2.1,
   I h.2.2 (λx G=>H x (.inr (.inr G))) (λx G=>h2 x (.inr (.inr G)))⟩
 case mat.mat I _ _ _=>
  exact⟨by rw [<-H _ (.inl rfl),<-h2 _ (.inl rfl)];exact h.1,by rw [<-H _ (.inr (.inl rfl)),<-h2 _ (.inr (.inl rfl))];exact h.2.1,
   I h.2.2 (λx G=>H x (.inr (.inr G))) (λx G=>h2 x (.inr (.inr G)))⟩
 case rcv.rcv I _ _ _=>
  exact⟨by rw [<-H _ (.inl rfl),<-h2 _ (.inl rfl)];exact h.1,
   λv=>I (h.2 v) (mC v λz V W=>H z (.inr ⟨V,W⟩)) (mC v λz V W=>h2 z (.inr ⟨V,W⟩))⟩
 case res.res I _ _=>
  exact λv=>I (h v) (mC v λz V W=>H z ⟨V,W⟩) (mC v λz V W=>h2 z ⟨V,W⟩)
 case tau.tau I _=>exact I h H h2
 case rep.rep I _=>exact I h H h2
 case sum.sum I Z _ _=>exact⟨I h.1 (λx G=>H x (.inl G)) (λx G=>h2 x (.inl G)),Z h.2 (λx G=>H x (.inr G)) (λx G=>h2 x (.inr G))⟩
 case par.par I Z _ _=>exact⟨I h.1 (λx G=>H x (.inl G)) (λx G=>h2 x (.inl G)),Z h.2 (λx G=>H x (.inr G)) (λx G=>h2 x (.inr G))⟩
theorem AE.refl:∀(p:T A) (ρ:A->Nat),AE ρ p ρ p:=by
 intro p
 induction p<;>intro ρ<;>simp_all [AE]
theorem AE.symm:∀{p:T A} {q:T B} {ρ:A->Nat} {σ:B->Nat},AE ρ p σ q->AE σ q ρ p:=by
 intro p
 induction p<;>intro q ρ σ h<;>cases q<;>simp only [AE]at h|-
 case snd.snd z _ _ _=>exact⟨h.1.symm,h.2.1.symm,z h.2.2⟩
 case mat.mat z _ _ _=>exact⟨h.1.symm,h.2.1.symm,z h.2.2⟩
 case rcv.rcv z _ _ _=>exact⟨h.1.symm,λv=>z (h.2 v)⟩
 case res.res z _ _=>exact λv=>z (h v)
 case tau.tau z _=>exact z h
 case rep.rep z _=>exact z h
 case sum.sum z G _ _=>exact⟨z h.1,G h.2⟩
 case par.par z G _ _=>exact⟨z h.1,G h.2⟩
theorem AE.trans:∀{p:T A} {q:T B} {r:T C} {ρ:A->Nat} {σ:B->Nat} {τ:C->Nat},AE ρ p σ q->AE σ q τ r->AE ρ p τ r:=by
 intro p
 induction p<;>intro q r ρ σ τ h k<;>cases q<;>simp only [AE]at h<;>cases r<;>simp only [AE]at k|-
 case snd.snd.snd z _ _ _ _ _ _=>exact⟨h.1.trans k.1,h.2.1.trans k.2.1,z h.2.2 k.2.2⟩
 case mat.mat.mat z _ _ _ _ _ _=>exact⟨h.1.trans k.1,h.2.1.trans k.2.1,z h.2.2 k.2.2⟩
 case rcv.rcv.rcv z _ _ _ _ _ _=>exact⟨h.1.trans k.1,λv=>z (h.2 v) (k.2 v)⟩
 case res.res.res z _ _ _ _=>exact λv=>z (h v) (k v)
 case tau.tau.tau z _ _=>exact z h k
 case rep.rep.rep z _ _=>exact z h k
 case sum.sum.sum z G _ _ _ _=>exact⟨z h.1 k.1,G h.2 k.2⟩
 case par.par.par z G _ _ _ _=>exact⟨z h.1 k.1,G h.2 k.2⟩
theorem yz {A:Type}(p:T A):∀ρ:A->Nat,∃B,∀x,p.Fr x->ρ x< B:=by
 induction p<;>intro ρ
 case nil=>exact⟨0,λx h=>h.elim⟩
 case snd a b p G=>
  obtain⟨n,h⟩:=G ρ;refine⟨n+ρ a+ρ b+1,λx z=>?_⟩;rcases z with rfl | rfl | z
  ·omega
  ·omega
  ·have :=h x z;omega
 case mat a b p G=>
  obtain⟨n,h⟩:=G ρ;refine⟨n+ρ a+ρ b+1,λx z=>?_⟩;rcases z with rfl | rfl | z
  ·omega
  ·omega
  ·have :=h x z;omega
 case rcv a y p G=>
  obtain⟨n,h⟩:=G ρ;refine⟨n+ρ a+1,λx z=>?_⟩;rcases z with rfl | z
  ·omega
  ·have :=h x z.2;omega
 case res y p G=>
  obtain⟨n,h⟩:=G ρ;exact⟨n,λx z=>h x z.2⟩
 case tau p G=>exact G ρ
 case rep p G=>exact G ρ
 case sum p q G H=>
  obtain⟨n,h⟩:=G ρ;obtain⟨m,I⟩:=H ρ;refine⟨n+m,λx z=>?_⟩;rcases z with z | z
  ·have :=h x z;omega
  ·have :=I x z;omega
 case par p q G H=>
  obtain⟨n,h⟩:=G ρ;obtain⟨m,I⟩:=H ρ;refine⟨n+m,λx z=>?_⟩;rcases z with z | z
  ·have :=h x z;omega
  ·have :=I x z;omega
theorem cw {A B:Type}(p:T A)(q:T B)(ρ:A->Nat)(σ:B->Nat):∃v,(∀x,p.Fr x->ρ x≠v)/\∀y,q.Fr y->σ y≠v:=by
 obtain⟨n,h⟩:=yz p ρ;obtain⟨m,G⟩:=yz q σ;exact⟨n+m,λx z=>by have :=h x z;omega,λx z=>by have :=G x z;omega⟩
theorem AE.map:∀{p:T A} {q:T B} {ρ:A->Nat} {σ:B->Nat} (f:Nat->Nat),AE ρ p σ q->AE (λx=>f (ρ x)) p (λx=>f (σ x)) q:=by
 intro p
 induction p<;>intro q ρ σ f h<;>cases q<;>simp only [AE]at h|-
 case snd.snd z _ _ _=>exact⟨Lb f h.1,Lb f h.2.1,z f h.2.2⟩
 case mat.mat z _ _ _=>exact⟨Lb f h.1,Lb f h.2.1,z f h.2.2⟩
 case rcv.rcv p z _ _ q=>
  refine⟨Lb f h.1,λv=>?_⟩;obtain⟨u,I,h2⟩:=cw p q ρ σ;refine(z (aF f u v) (h.2 u)).congr (λx G=>?_) λx G=>?_<;>unfold aF<;>split
  ·simp
  ·rw [Ko (I _ G)]
  ·simp
  ·rw [Ko (h2 _ G)]
 case res.res p z _ q=>
  intro v;obtain⟨u,I,h2⟩:=cw p q ρ σ;refine(z (aF f u v) (h u)).congr (λx G=>?_) λx G=>?_<;>unfold aF<;>split
  ·simp
  ·rw [Ko (I _ G)]
  ·simp
  ·rw [Ko (h2 _ G)]
 case tau.tau z _=>exact z f h
 case rep.rep z _=>exact z f h
 case sum.sum z H _ _=>exact⟨z f h.1,H f h.2⟩
 case par.par z H _ _=>exact⟨z f h.1,H f h.2⟩
theorem AE.dead:∀{p:T A} {q:T B} {ρ:A->Nat} {σ:B->Nat},AE ρ p σ q->p.dead=q.dead:=by
 intro p
 induction p<;>intro q ρ σ h<;>cases q<;>simp only [AE]at h<;>simp only [T.dead]
 case res.res z _ _=>exact z (h 0)
 case mat.mat z _ _ _=>exact z h.2.2
 case rep.rep z _=>exact z h
 case sum.sum z G _ _=>rw [z h.1,G h.2]
 case par.par z G _ _=>rw [z h.1,G h.2]
theorem AE.free:∀{p:T A} {q:T B} {ρ:A->Nat} {σ:B->Nat},AE ρ p σ q->∀x,p.Fr x->∃y,q.Fr y/\σ y=ρ x:=by
 intro p
 induction p<;>intro q ρ σ h x z<;>cases q<;>simp only [AE]at h
 case nil.nil=>exact z.elim
 case snd.snd G _ _ _=>
  rcases z with rfl | rfl | z
  ·exact⟨_,.inl rfl,h.1.symm⟩
  ·exact⟨_,.inr (.inl rfl),h.2.1.symm⟩
  ·obtain⟨y,H,h2⟩:=G h.2.2 x z;exact⟨y,.inr (.inr H),h2⟩
 case mat.mat G _ _ _=>
  rcases z with rfl | rfl | z
  ·exact⟨_,.inl rfl,h.1.symm⟩
  ·exact⟨_,.inr (.inl rfl),h.2.1.symm⟩
  ·obtain⟨y,H,h2⟩:=G h.2.2 x z;exact⟨y,.inr (.inr H),h2⟩
 case rcv.rcv p G _ _ q=>
  rcases z with rfl | ⟨I,z⟩
  ·exact⟨_,.inl rfl,h.1.symm⟩
  ·obtain⟨u,H,h2⟩:=cw p q ρ σ;obtain⟨y,V,h4⟩:=G (h.2 u) x z;rw [bS _ _ I]at h4;unfold aF at h4;split at h4
   ·exact absurd h4.symm (H x z)
   ·rename_i W;exact⟨y,.inr ⟨W,V⟩,h4⟩
 case res.res p G _ q=>
  obtain⟨I,z⟩:=z;obtain⟨u,H,h2⟩:=cw p q ρ σ;obtain⟨y,V,h4⟩:=G (h u) x z;rw [bS _ _ I]at h4;unfold aF at h4;split at h4
  ·exact absurd h4.symm (H x z)
  ·rename_i W;exact⟨y,⟨W,V⟩,h4⟩
 case tau.tau G _=>exact G h x z
 case rep.rep G _=>exact G h x z
 case sum.sum G J _ _=>
  rcases z with z | z
  ·obtain⟨y,H,h2⟩:=G h.1 x z;exact⟨y,.inl H,h2⟩
  ·obtain⟨y,H,h2⟩:=J h.2 x z;exact⟨y,.inr H,h2⟩
 case par.par G J _ _=>
  rcases z with z | z
  ·obtain⟨y,H,h2⟩:=G h.1 x z;exact⟨y,.inl H,h2⟩
  ·obtain⟨y,H,h2⟩:=J h.2 x z;exact⟨y,.inr H,h2⟩
def e9 (ρ:A->Nat)(p:T A):Prop:=∀x y,p.Us x->p.Us y->ρ x=ρ y->x=y
theorem e9.aF {ρ:A->Nat}{p:T A}{x:A}{v:Nat}(h:∀y z,y≠x->z≠x->p.Us y->p.Us z->ρ y=ρ z->y=z)(H:∀y,y≠x->p.Us y->ρ y≠v):e9 (aF ρ x v) p:=by
 intro y z I J e;unfold Proofs.YtdecokaadekjnaaGreat.aF at e;split at e<;>split at e
 ·rename_i G h2;rw [G,h2]
 ·rename_i G h2;exact absurd e.symm (H z h2 J)
 ·rename_i G h2;exact absurd e (H y G I)
 ·rename_i G h2;exact h y z G h2 I J e
theorem AE.used:∀{p:T A} {q:T B} {ρ:A->Nat} {σ:B->Nat},AE ρ p σ q->e9 ρ p->e9 σ q->∀x,p.Us x->∃y,q.Us y/\σ y=ρ x:=by
 intro p
 induction p<;>intro q ρ σ h i j x G<;>cases q<;>simp only [AE]at h
 case nil.nil=>exact G.elim
 case snd.snd V _ _ _=>
  rcases G with rfl | rfl | G
  ·exact⟨_,.inl rfl,h.1.symm⟩
  ·exact⟨_,.inr (.inl rfl),h.2.1.symm⟩
  ·obtain⟨y,I,h2⟩:=V h.2.2 (λx y G H=>i x y (.inr (.inr G)) (.inr (.inr H))) (λx y G H=>j x y (.inr (.inr G)) (.inr (.inr H))) x G;exact⟨y,.inr (.inr I),h2⟩
 case mat.mat p V c d q=>
  have hd:p.dead=q.dead:=h.2.2.dead;rcases G with⟨e,G⟩ | ⟨e,Z,G⟩
  ·subst e;have e2:σ c=σ d:=h.1.symm.trans h.2.1;have hl:p.dead=false:=by
    cases hq:p.dead with
    | false=>rfl
    | true=>exact absurd G (T.bI hq)
   have J:c=d:=by
    refine K1 λW=>W (j c d ?_ ?_ e2)
    ·exact .inr ⟨W,hd▸hl,.inl rfl⟩
    ·exact .inr ⟨W,hd▸hl,.inr (.inl rfl)⟩
   obtain⟨y,I,h2⟩:=V h.2.2 (λx y G H=>i x y (.inl ⟨rfl,G⟩) (.inl ⟨rfl,H⟩)) (λx y G H=>j x y (.inl ⟨J,G⟩) (.inl ⟨J,H⟩)) x G;exact⟨y,.inl ⟨J,I⟩,h2⟩
  ·rename_i a b;have J:c≠d:=by
    rintro rfl
    exact e (i a b (.inr ⟨e,Z,.inl rfl⟩) (.inr ⟨e,Z,.inr (.inl rfl)⟩) (h.1.trans h.2.1.symm))
   have α:q.dead=false:=hd▸Z;rcases G with rfl | rfl | G
   ·exact⟨c,.inr ⟨J,α,.inl rfl⟩,h.1.symm⟩
   ·exact⟨d,.inr ⟨J,α,.inr (.inl rfl)⟩,h.2.1.symm⟩
   ·obtain⟨y,I,h2⟩:=V h.2.2 (λx y G H=>i x y (.inr ⟨e,Z,.inr (.inr G)⟩) (.inr ⟨e,Z,.inr (.inr H)⟩))
     (λx y G H=>j x y (.inr ⟨J,α,.inr (.inr G)⟩) (.inr ⟨J,α,.inr (.inr H)⟩)) x G
    exact⟨y,.inr ⟨J,α,.inr (.inr I)⟩,h2⟩
 case rcv.rcv p V _ _ q=>
  rcases G with rfl | ⟨W,G⟩
  ·exact⟨_,.inl rfl,h.1.symm⟩
  ·obtain⟨u,I,h2⟩:=cw p q ρ σ;obtain⟨y,h3,h4⟩:=V (h.2 u) (.aF (λy z H hz h5 h6=>i y z (.inr ⟨H,h5⟩) (.inr ⟨hz,h6⟩)) λy _ H=>I y (T.bG H))
    (.aF (λy z H hz h5 h6=>j y z (.inr ⟨H,h5⟩) (.inr ⟨hz,h6⟩)) λy _ H=>h2 y (T.bG H)) x G
   rw [bS _ _ W]at h4;unfold aF at h4;split at h4
   ·exact absurd h4.symm (I x (T.bG G))
   ·rename_i H;exact⟨y,.inr ⟨H,h3⟩,h4⟩
 case res.res p V _ q=>
  obtain⟨W,G⟩:=G;obtain⟨u,I,h2⟩:=cw p q ρ σ;obtain⟨y,h3,h4⟩:=V (h u) (.aF (λy z H hz h5 h6=>i y z ⟨H,h5⟩ ⟨hz,h6⟩) λy _ H=>I y (T.bG H))
    (.aF (λy z H hz h5 h6=>j y z ⟨H,h5⟩ ⟨hz,h6⟩) λy _ H=>h2 y (T.bG H)) x G
  rw [bS _ _ W]at h4;unfold aF at h4;split at h4
  ·exact absurd h4.symm (I x (T.bG G))
  ·rename_i H;exact⟨y,⟨H,h3⟩,h4⟩
 case tau.tau V _=>exact V h i j x G
 case rep.rep V _=>exact V h i j x G
 case sum.sum V β _ _=>
  rcases G with G | G
  ·obtain⟨y,I,h2⟩:=V h.1 (λx y G H=>i x y (.inl G) (.inl H)) (λx y G H=>j x y (.inl G) (.inl H)) x G;exact⟨y,.inl I,h2⟩
  ·obtain⟨y,I,h2⟩:=β h.2 (λx y G H=>i x y (.inr G) (.inr H)) (λx y G H=>j x y (.inr G) (.inr H)) x G;exact⟨y,.inr I,h2⟩
 case par.par V β _ _=>
  rcases G with G | G
  ·obtain⟨y,I,h2⟩:=V h.1 (λx y G H=>i x y (.inl G) (.inl H)) (λx y G H=>j x y (.inl G) (.inl H)) x G;exact⟨y,.inl I,h2⟩
  ·obtain⟨y,I,h2⟩:=β h.2 (λx y G H=>i x y (.inr G) (.inr H)) (λx y G H=>j x y (.inr G) (.inr H)) x G;exact⟨y,.inr I,h2⟩
def aC (p:T A)(old nm:A)(q:T A):Prop:=∀ρ:A->Nat,AE (aF ρ old (ρ nm)) p ρ q
def sw (c old nm:A):A:=if c=old then nm else c
theorem nA (ρ:A->Nat)(c old nm:A):aF ρ old (ρ nm) c=ρ (sw c old nm):=by
 unfold aF sw;split<;>rfl
theorem aC.skip {p:T A}{old nm:A}(h:¬p.Fr old):aC p old nm p:=λρ=>
 (AE.refl p ρ).congr (λx z=>by
  unfold aF;split
  ·rename_i e;subst e;exact absurd z h
  ·rfl) λ _ _=>rfl
theorem aC.same {p:T A}(old:A):aC p old old p:=λρ=>
 (AE.refl p ρ).congr (λx z=>by
  unfold aF;split
  ·rename_i e;subst e;rfl
  ·rfl) λ _ _=>rfl
theorem aC.snd {p q:T A}{old nm:A}(a b:A)(h:aC p old nm q):aC (.snd a b p) old nm (.snd (sw a old nm) (sw b old nm) q):=λρ=>
 ⟨nA ..,nA ..,h ρ⟩
theorem aC.mat {p q:T A}{old nm:A}(a b:A)(h:aC p old nm q):aC (.mat a b p) old nm (.mat (sw a old nm) (sw b old nm) q):=λρ=>
 ⟨nA ..,nA ..,h ρ⟩
theorem aC.tau {p q:T A}{old nm:A}(h:aC p old nm q):aC (.tau p) old nm (.tau q):=λρ=>h ρ
theorem aC.rep {p q:T A}{old nm:A}(h:aC p old nm q):aC (.rep p) old nm (.rep q):=λρ=>h ρ
theorem aC.sum {p q z G:T A}{old nm:A}(h:aC p old nm q)(H:aC z old nm G):aC (.sum p z) old nm (.sum q G):=λρ=>⟨h ρ,H ρ⟩
theorem aC.par {p q z G:T A}{old nm:A}(h:aC p old nm q)(H:aC z old nm G):aC (.par p z) old nm (.par q G):=λρ=>⟨h ρ,H ρ⟩
theorem aC.under {p q:T A}{old nm x:A}(H:x≠old)(G:x≠nm\/¬p.Fr old)(h:aC p old nm q)(ρ:A->Nat)(v:Nat):
  AE (aF (aF ρ old (ρ nm)) x v) p (aF ρ x v) q:=by
 refine(h (aF ρ x v)).congr (λz J=>?_) λ _ _=>rfl
 by_cases I:z=old
 ·subst I;rcases G with G | G
  ·simp [aF,Ni G,Ni H]
  ·exact absurd J G
 ·by_cases h2:z=x<;>simp [aF,I,h2,H]
theorem aC.over {p:T A}{old nm:A}(ρ:A->Nat)(v:Nat):AE (aF (aF ρ old (ρ nm)) old v) p (aF ρ old v) p:=by
 refine(AE.refl p (aF ρ old v)).congr (λz G=>?_) λ _ _=>rfl
 unfold aF;split<;>rfl
theorem aC.cap {p V W:T A}{old nm y:A}(ho:nm≠old)(hy:¬p.Fr y)(G:y≠old)(H:y≠nm)(h1:aC p nm y V)(h2:aC V old nm W)(ρ:A->Nat)(v:Nat):
  AE (aF (aF ρ old (ρ nm)) nm v) p (aF ρ y v) W:=by
 have k2:=h2 (aF ρ y v);have k1:=h1 (aF (aF ρ y v) old (aF ρ y v nm));refine(AE.trans k1 k2).congr (λz hz=>?_) λ _ _=>rfl
 have I:z≠y:=by rintro rfl;exact hy hz
 by_cases J:z=nm
 ·subst J;simp [aF,G]
 ·by_cases Z:z=old
  ·subst Z;simp [aF,J,Ni H]
  ·simp [aF,J,Z,I]
theorem aC.B3 {p q:T A}{old nm x:A}(z:x≠old)(G:x≠nm\/¬p.Fr old)(h:aC p old nm q):aC (.res x p) old nm (.res x q):=λρ v=>h.under z G ρ v
theorem aC.BF {p q:T A}{old nm x:A}(a:A)(z:x≠old)(G:x≠nm\/¬p.Fr old)(h:aC p old nm q):aC (.rcv a x p) old nm (.rcv (sw a old nm) x q):=λρ=>
 ⟨nA ..,λv=>h.under z G ρ v⟩
theorem aC.EN {p:T A}{old nm:A}(a:A):aC (.rcv a old p) old nm (.rcv (sw a old nm) old p):=λρ=>⟨nA ..,λv=>aC.over ρ v⟩
theorem aC.FV {p H I:T A}{old nm y:A}(J:nm≠old)(V:¬p.Fr y)(z:y≠old)(G:y≠nm)(W:aC p nm y H)(h2:aC H old nm I):aC (.res nm p) old nm (.res y I):=λρ v=>
 aC.cap J V z G W h2 ρ v
theorem aC.FA {p H I:T A}{old nm y:A}(a:A)(J:nm≠old)(V:¬p.Fr y)(z:y≠old)(G:y≠nm)(W:aC p nm y H)(h2:aC H old nm I):aC (.rcv a nm p) old nm (.rcv (sw a old nm) y I):=λρ=>
 ⟨nA ..,λv=>aC.cap J V z G W h2 ρ v⟩
theorem AE.renamed {p q:T A}{old nm:A}(h:aC p old nm q){u:T B}{ρ:A->Nat}{σ:B->Nat}(z:∀x,p.Fr x->ρ x=ρ old->x=old)(k:AE ρ p σ u):AE ρ q (λx=>if σ x=ρ old then ρ nm else σ x) u:=by
 have G:=k.map (λv=>if v=ρ old then ρ nm else v);refine(h ρ).symm.trans (G.congr (λx H=>?_) λ _ _=>rfl);unfold aF;by_cases e:x=old
 ·subst e;simp
 ·rw [Ko (λh=>e (z x H h)),Ko e]
end
inductive K where
 | s | r | t | m | p
 deriving DecidableEq
inductive Lv where
 | nil
 | thr (k:K) (a b:Nat) (own:List Nat) (rest:Lv) (next:Lv)
 | sum (parts:Lv) (next:Lv)
 | part (own:List Nat) (q:Lv) (next:Lv)
namespace Lv
def app:Lv->Lv->Lv
 | nil,m=>m
 | thr k a b o r n,m=>thr k a b o r (n.app m)
 | sum z n,m=>sum z (n.app m)
 | part o q n,m=>part o q (n.app m)
def len:Lv->Nat
 | nil=>0 | thr _ _ _ _ _ n=>n.len+1 | sum _ n=>n.len+1 | part _ _ n=>n.len+1
def isNil:Lv->Bool
 | nil=>true | _=>false
theorem a6:∀l:Lv,l.app nil=l
 | nil=>rfl
 | thr k a b o r n=>by rw [app,a6 n]
 | sum z n=>by rw [app,a6 n]
 | part o q n=>by rw [app,a6 n]
theorem cD:∀l m n:Lv,(l.app m).app n=l.app (m.app n)
 | nil,m,n=>rfl
 | thr k a b o r x,m,n=>by simp only [app,cD x m n]
 | sum z x,m,n=>by simp only [app,cD x m n]
 | part o q x,m,n=>by simp only [app,cD x m n]
theorem eh:∀l m:Lv,(l.app m).len=l.len+m.len
 | nil,m=>by simp [app,len]
 | thr k a b o r x,m=>by simp only [app,len,eh x m];omega
 | sum z x,m=>by simp only [app,len,eh x m];omega
 | part o q x,m=>by simp only [app,len,eh x m];omega
theorem du (l:Lv):l.isNil=decide (l.len=0):=by cases l<;>simp [isNil,len]
def has (x:Nat):Lv->Bool
 | nil=>false
 | thr k a b _ rest next=>((k== .s||k== .m||k== .r)&&(a==x||b==x))||rest.has x||next.has x
 | sum z next=>z.has x||next.has x
 | part _ q next=>q.has x||next.has x
theorem dg (x:Nat):∀l m:Lv,(l.app m).has x=(l.has x||m.has x)
 | nil,m=>by simp [app,has]
 | thr k a b o r n,m=>by simp only [app,has,dg x n m,LC]
 | sum z n,m=>by simp only [app,has,dg x n m,LC]
 | part o q n,m=>by simp only [app,has,dg x n m,LC]
def spl (z:Lv)(n:List Nat×Lv):List Nat×Lv:=match z with
 | nil=>n
 | part o q nil=>(o++n.1,q.app n.2)
 | z=>(n.1,sum z n.2)
def prt (o:List Nat)(q:Lv)(n:Lv):Lv:=match q with
 | nil=>n
 | sum z nil=>if o.isEmpty then z.app n else part o q n
 | q=>part o q n
def kept (own:List Nat)(r:List Nat×Lv):List Nat×Lv:=((own++r.1).filter λx=>r.2.has x,r.2)
def tid:Lv->List Nat×Lv
 | nil=>([],nil)
 | thr k a b own rest next=>
  let r:=kept own (tid rest)
  let n:=tid next
  if k= .m/\a=b then(r.1++n.1,r.2.app n.2)
  else if(k= .m\/k= .p)/\r.2.isNil=true then n
  else(n.1,thr k a b r.1 r.2 n.2)
 | sum z next=>spl (tid z).2 (tid next)
 | part own q next=>let r:=kept own (tid q);([],prt r.1 r.2 (tid next).2)
def tidy (own:List Nat)(l:Lv):List Nat×Lv:=kept own (tid l)
def fL:Lv->Bool
 | nil=>true | thr _ _ _ _ _ n=>n.fL | sum _ n=>n.fL | part .. =>false
theorem oX:∀l m:Lv,(l.app m).fL=(l.fL&&m.fL)
 | nil,m=>by simp [app,fL]
 | thr k a b o r n,m=>by simp only [app,fL,oX n m]
 | sum z n,m=>by simp only [app,fL,oX n m]
 | part o q n,m=>by simp [app,fL]
theorem GG (z:Lv)(n m:List Nat×Lv):spl z (n.1++m.1,n.2.app m.2)=((spl z n).1++m.1,(spl z n).2.app m.2):=by
 unfold spl;split<;>simp [app,cD]
theorem cQ:∀l m:Lv,l.fL=true->tid (l.app m)=((tid l).1++(tid m).1,(tid l).2.app (tid m).2)
 | nil,m,_=>by simp [app,tid]
 | thr k a b o r n,m,h=>by
  simp only [app,tid,cQ n m h];split
  ·simp [cD]
  ·split
   ·rfl
   ·simp [app]
 | sum z n,m,h=>by
  simp only [app,tid,cQ n m h];exact GG _ _ _
 | part ..,_,h=>by cases h
end Lv
abbrev U:=T Nat
def flat:U->List Nat×Lv
 | .nil=>([],.nil)
 | .snd a b p=>([],.thr .s a b (flat p).1 (flat p).2 .nil)
 | .rcv a x p=>([],.thr .r a x (flat p).1 (flat p).2 .nil)
 | .tau p=>([],.thr .t 0 0 (flat p).1 (flat p).2 .nil)
 | .sum p q=>([],.sum (.part (flat p).1 (flat p).2 (.part (flat q).1 (flat q).2 .nil)) .nil)
 | .par p q=>((flat p).1++(flat q).1,(flat p).2.app (flat q).2)
 | .res x p=>(x::(flat p).1,(flat p).2)
 | .mat a b p=>([],.thr .m a b (flat p).1 (flat p).2 .nil)
 | .rep p=>([],.thr .p 0 0 (flat p).1 (flat p).2 .nil)
theorem cu:∀u:U,(flat u).2.fL=true
 | .nil=>rfl | .snd .. =>rfl | .rcv .. =>rfl | .tau .. =>rfl | .sum .. =>rfl | .mat .. =>rfl | .rep .. =>rfl
 | .res x p=>cu p
 | .par p q=>by simp [flat,Lv.oX,cu p,cu q]
def td (u:U):List Nat×Lv:=Lv.tidy (flat u).1 (flat u).2
def BV:U->List Nat
 | .nil=>[] | .snd _ _ p=>BV p | .rcv _ x p=>x::BV p | .tau p=>BV p | .sum p q=>BV p++BV q
 | .par p q=>BV p++BV q | .res x p=>x::BV p | .mat _ _ p=>BV p | .rep p=>BV p
structure Uq (u:U):Prop where
 nd:(BV u).Nodup
 nf:∀x∈BV u,¬u.Fr x
section
variable {a b x:Nat} {p q:U}
theorem Uq.snd (h:Uq (.snd a b p)):Uq p:=⟨h.nd,λx z G=>h.nf x z (.inr (.inr G))⟩
theorem Uq.mat (h:Uq (.mat a b p)):Uq p:=⟨h.nd,λx z G=>h.nf x z (.inr (.inr G))⟩
theorem Uq.tau (h:Uq (.tau p)):Uq p:=⟨h.nd,h.nf⟩
theorem Uq.rep (h:Uq (.rep p)):Uq p:=⟨h.nd,h.nf⟩
theorem Uq.rcv (h:Uq (.rcv a x p)):Uq p:=by
 have z:=K7.1 h.nd;exact⟨z.2,λy G H=>h.nf y (Ki _ G) (.inr ⟨λe=>z.1 (e▸G),H⟩)⟩
theorem Uq.res (h:Uq (.res x p)):Uq p:=by
 have z:=K7.1 h.nd;exact⟨z.2,λy G H=>h.nf y (Ki _ G) ⟨λe=>z.1 (e▸G),H⟩⟩
theorem Uq.fZ (h:Uq (.res x p)):x∉BV p:=(K7.1 h.nd).1
theorem Uq.lL (h:Uq (.rcv a x p)):x∉BV p:=(K7.1 h.nd).1
theorem Uq.fT (h:Uq (.par p q)):Uq p:=⟨(KL.1 h.nd).1,λx z G=>h.nf x (KH _ z) (.inl G)⟩
theorem Uq.fM (h:Uq (.par p q)):Uq q:=⟨(KL.1 h.nd).2.1,λx z G=>h.nf x (KB _ z) (.inr G)⟩
theorem Uq.ec (h:Uq (.sum p q)):Uq p:=⟨(KL.1 h.nd).1,λx z G=>h.nf x (KH _ z) (.inl G)⟩
theorem Uq.dL (h:Uq (.sum p q)):Uq q:=⟨(KL.1 h.nd).2.1,λx z G=>h.nf x (KB _ z) (.inr G)⟩
end
def ak:U->List Nat×List U
 | .nil=>([],[])
 | .snd a b p=>([],[.snd a b p])
 | .rcv a x p=>([],[.rcv a x p])
 | .tau p=>([],[.tau p])
 | .sum p q=>if p.dead then ak q else if q.dead then ak p else([],[.sum p q])
 | .par p q=>((ak p).1++(ak q).1,(ak p).2++(ak q).2)
 | .res x p=>(if(td p).2.has x then x::(ak p).1 else(ak p).1,(ak p).2)
 | .mat a b p=>if a=b then ak p else if p.dead then([],[])else([],[.mat a b p])
 | .rep p=>if p.dead then([],[])else([],[.rep p])
def an:U->List U
 | .nil=>[]
 | .snd a b p=>[.snd a b p]
 | .rcv a x p=>[.rcv a x p]
 | .tau p=>[.tau p]
 | .sum p q=>an p++an q
 | .par p q=>if p.dead then an q else if q.dead then an p else [.par p q]
 | .res x p=>if(td p).2.has x then [.res x p]else an p
 | .mat a b p=>if a=b then an p else if p.dead then []else [.mat a b p]
 | .rep p=>if p.dead then []else [.rep p]
def tp:List U->Lv
 | []=> .nil
 | u::l=> .part (td u).1 (td u).2 (tp l)
def tl:List U->Lv
 | []=> .nil
 | .snd a b p::l=> .thr .s a b (td p).1 (td p).2 (tl l)
 | .rcv a x p::l=> .thr .r a x (td p).1 (td p).2 (tl l)
 | .tau p::l=> .thr .t 0 0 (td p).1 (td p).2 (tl l)
 | .mat a b p::l=> .thr .m a b (td p).1 (td p).2 (tl l)
 | .rep p::l=> .thr .p 0 0 (td p).1 (td p).2 (tl l)
 | .sum p q::l=> .sum (tp (an p++an q)) (tl l)
 | _::l=>tl l
theorem gI:∀l m:List U,tl (l++m)=(tl l).app (tl m)
 | [],m=>rfl
 | u::l,m=>by cases u<;>simp only [K4,tl,Lv.app,gI l m]
theorem tc:∀l m:List U,tp (l++m)=(tp l).app (tp m)
 | [],m=>rfl
 | u::l,m=>by simp only [K4,tp,Lv.app,tc l m]
theorem z7:∀l:List U,(tp l).len=l.length
 | []=>rfl
 | u::l=>by simp only [tp,Lv.len,J0,z7 l]
def cp (u:U):Lv:=Lv.prt (td u).1 (td u).2 .nil
theorem lY (o:List Nat)(q n:Lv):Lv.prt o q n=(Lv.prt o q .nil).app n:=by
 unfold Lv.prt;split
 ·rfl
 ·split<;>simp [Lv.app,Lv.a6]
 ·rfl
theorem rb (u:U):(td u).2=(Lv.tid (flat u).2).2:=rfl
theorem oI (p q:U):Lv.tid (flat (.sum p q)).2=Lv.spl ((cp p).app (cp q)) ([],.nil):=by
 simp only [flat,Lv.tid]
 congr 1
 rw [lY];rfl
theorem pd (a b:Nat)(p:U):Lv.tid (flat (.mat a b p)).2=if a=b then td p else if(td p).2.isNil then([],.nil)else([],.thr .m a b (td p).1 (td p).2 .nil):=by
 have z:(Lv.kept (flat p).1 (Lv.tid (flat p).2))=td p:=rfl;simp only [flat,Lv.tid,z,KJ,Lv.a6];by_cases h:a=b<;>simp [h]
theorem oH (p:U):Lv.tid (flat (.rep p)).2=if(td p).2.isNil then([],.nil)else([],.thr .p 0 0 (td p).1 (td p).2 .nil):=by
 have z:(Lv.kept (flat p).1 (Lv.tid (flat p).2))=td p:=rfl;simp only [flat,Lv.tid,z];simp
theorem bN:∀u:U,((td u).2.len=0↔u.dead=true)/\((cp u).len=0↔u.dead=true)/\(td u).2.fL=true/\(∀z,(td u).2= .sum z .nil->2<=z.len):=by
 intro u;have α:∀u:U,(((td u).2.len=0↔u.dead=true)/\(td u).2.fL=true/\(∀z,(td u).2= .sum z .nil->2<=z.len))->((cp u).len=0↔u.dead=true):=by
  intro u ⟨h,_,h2⟩;rw [<-h];unfold cp Lv.prt;split
  ·rename_i e;rw [e]
  ·rename_i z e;have :=h2 z e;rw [e];split<;>simp [Lv.len,Lv.eh]<;>omega
  ·rename_i e1 e2;cases e:(td u).2<;>simp [Lv.len]
   exact e1 e
 suffices h:((td u).2.len=0↔u.dead=true)/\(td u).2.fL=true/\(∀z,(td u).2= .sum z .nil->2<=z.len)from⟨h.1,α u h,h.2⟩
 induction u with
 | nil=>simp [rb,flat,Lv.tid,Lv.len,T.dead,Lv.fL]
 | snd a b p G=>simp [rb,flat,Lv.tid,Lv.len,T.dead,Lv.fL]
 | rcv a b p G=>simp [rb,flat,Lv.tid,Lv.len,T.dead,Lv.fL]
 | tau p G=>simp [rb,flat,Lv.tid,Lv.len,T.dead,Lv.fL]
 | res x p G=>exact G
 | par p q G H=>
  have e:(td (.par p q)).2=(td p).2.app (td q).2:=by simp only [rb,flat,Lv.cQ _ _ (cu p)]
  rw [e];refine⟨?_,?_,λz V=>?_⟩
  ·rw [Lv.eh,T.dead,J3,<-G.1,<-H.1];omega
  ·rw [Lv.oX,G.2.1,H.2.1];rfl
  ·cases h:(td p).2 with
   | nil=>rw [h]at V;exact H.2.2 z V
   | thr=>rw [h]at V;cases V
   | part=>rw [h]at V;cases V
   | sum δ n=>
    rw [h]at V;simp only [Lv.app,Lv.sum.injEq]at V;obtain⟨rfl,hn⟩:=V;have:n= .nil:=by
     cases n<;>simp [Lv.app]at hn
     rfl
    subst this;exact G.2.2 _ h
 | mat a b p G=>
  rw [rb,pd,Lv.du];by_cases β:a=b
  ·rw [KG β];exact G
  ·rw [Ko β];by_cases hd:(td p).2.len=0
   ·simp only [hd,decide_true,LN,Lv.len,T.dead,G.1.1 hd,Lv.fL,Mc];intro z h;cases h
   ·have:p.dead=false:=by
     cases h:p.dead with
     | false=>rfl
     | true=>exact absurd (G.1.2 h) hd
    simp [hd,Lv.len,T.dead,this,Lv.fL]
 | rep p G=>
  rw [rb,oH,Lv.du];by_cases hd:(td p).2.len=0
  ·simp only [hd,decide_true,LN,Lv.len,T.dead,G.1.1 hd,Lv.fL,Mc];intro z h;cases h
  ·have:p.dead=false:=by
    cases h:p.dead with
    | false=>rfl
    | true=>exact absurd (G.1.2 h) hd
   simp [hd,Lv.len,T.dead,this,Lv.fL]
 | sum p q G H=>
  have h1:=α p G;have h2:=α q H;rw [rb,oI];have hlen:((cp p).app (cp q)).len=0↔(T.sum p q).dead=true:=by
   rw [Lv.eh,T.dead,J3,<-h1,<-h2];omega
  have W:∀u:U,(((td u).2.len=0↔u.dead=true)/\(td u).2.fL=true/\(∀z,(td u).2= .sum z .nil->2<=z.len))->∀o r,cp u= .part o r .nil->o=(td u).1/\r=(td u).2/\r.len≠0:=by
   intro u ⟨h,h3,h4⟩ o r he;unfold cp Lv.prt at he;split at he
   ·cases he
   ·rename_i z e;split at he
    ·rw [Lv.a6]at he;have :=h4 z e;rw [he]at this;simp [Lv.len]at this
    ·cases he;exact⟨rfl,rfl,by rw [e];simp [Lv.len]⟩
   ·rename_i e1 e2;cases he;refine⟨rfl,rfl,λI=>e1 ?_⟩;cases e:(td u).2<;>rw [e]at I<;>first | rfl | (simp [Lv.len]at I)
  unfold Lv.spl;split
  ·rename_i e;rw [e]at hlen;simp only [Lv.len,true_iff]at hlen;simp [Lv.len,hlen,Lv.fL]
  ·rename_i o r e;have Z:(T.sum p q).dead=false:=by
    cases h:(T.sum p q).dead with
    | false=>rfl
    | true=>rw [<-hlen,e]at h;simp [Lv.len]at h
   simp only [Lv.a6,Z];have key:(cp p= .nil/\cp q= .part o r .nil)\/(cp p= .part o r .nil/\cp q= .nil):=by
    cases hc:cp p with
    | nil=>rw [hc]at e;exact .inl ⟨rfl,e⟩
    | thr=>rw [hc]at e;cases e
    | sum=>rw [hc]at e;cases e
    | part o' r' n=>
     rw [hc]at e;simp only [Lv.app,Lv.part.injEq]at e;obtain⟨rfl,rfl,e⟩:=e;cases n<;>simp only [Lv.app]at e
     ·exact .inr ⟨rfl,e⟩
     all_goals cases e
   rcases key with⟨_,hc⟩ | ⟨hc,_⟩
   ·obtain⟨_,rfl,I⟩:=W q H o r hc;exact⟨by simp [I],H.2.1,H.2.2⟩
   ·obtain⟨_,rfl,I⟩:=W p G o r hc;exact⟨by simp [I],G.2.1,G.2.2⟩
  ·rename_i z e1 e2;have γ:((cp p).app (cp q)).len≠0:=by
    intro I;apply e1;cases h:(cp p).app (cp q)<;>rw [h]at I<;>first | rfl | (simp [Lv.len]at I)
   have Z:(T.sum p q).dead=false:=by
    cases h:(T.sum p q).dead with
    | false=>rfl
    | true=>exact absurd (hlen.2 h) γ
   refine⟨by simp [Lv.len,Z],rfl,λδ V=>?_⟩;simp only [Lv.sum.injEq,MG]at V;subst V;have J:∀u:U,(((td u).2.len=0↔u.dead=true)/\(td u).2.fL=true/\(∀z,(td u).2= .sum z .nil->2<=z.len))->(cp u).len=1->∃o r,cp u= .part o r .nil:=by
    intro u ⟨h,h3,h4⟩ Z;unfold cp Lv.prt at Z|-;split at Z
    ·simp [Lv.len]at Z
    ·rename_i z e;split at Z
     ·rw [Lv.a6]at Z;have :=h4 z e;omega
     ·rename_i hh;rw [Ko hh];exact⟨_,_,rfl⟩
    ·exact⟨_,_,rfl⟩
   rw [Lv.eh]at γ|-;rcases LF 1 ((cp p).len+(cp q).len)with h | h
   ·omega
   ·exfalso;rcases Mw (cp p).len with I | I
    ·obtain⟨o,r,hc⟩:=J q H (by omega);have:cp p= .nil:=by cases hh:cp p<;>rw [hh]at I<;>first | rfl | (simp [Lv.len]at I)
     exact e2 o r (by rw [this,hc];rfl)
    ·obtain⟨o,r,hc⟩:=J p G (by omega);have:cp q= .nil:=by
      have I:(cp q).len=0:=by omega
      cases hh:cp q<;>rw [hh]at I<;>first | rfl | (simp [Lv.len]at I)
     exact e2 o r (by rw [this,hc];rfl)
theorem Gn (x:Nat)(z:Lv)(n:List Nat×Lv):(Lv.spl z n).2.has x=(z.has x||n.2.has x):=by
 unfold Lv.spl;split<;>simp [Lv.has,Lv.dg]
theorem Gw (x:Nat)(o:List Nat)(q n:Lv):(Lv.prt o q n).has x=(q.has x||n.has x):=by
 unfold Lv.prt;split
 ·simp [Lv.has]
 ·split<;>simp [Lv.has,Lv.dg]
 ·simp [Lv.has]
theorem C4 (x:Nat)(u:U):(cp u).has x=(td u).2.has x:=by
 simp [cp,Gw,Lv.has]
theorem lK (u:U):u.dead=false↔(td u).2.len≠0:=by
 rw [Ne,(bN u).1];simp
theorem gK {l:Lv}(h:l.len=0):l= .nil:=by
 cases l<;>first | rfl | (simp [Lv.len]at h)
theorem mM {u:U}(h:u.dead=true):(td u).2= .nil:=gK ((bN u).1.2 h)
theorem dH (u:U):(td u).2.isNil=u.dead:=by
 rw [Lv.du];cases h:u.dead with
 | true=>simp [(bN u).1.2 h]
 | false=>simpa using(lK u).1 h
theorem fS:∀(u:U) (x:Nat),x∉BV u->((td u).2.has x=true↔u.Us x):=by
 intro u
 induction u with
 | nil=>intro x _;simp [rb,flat,Lv.tid,Lv.has,T.Us]
 | snd a b p G=>
  intro x H;have V:(Lv.kept (flat p).1 (Lv.tid (flat p).2))=td p:=rfl;have :=G x H;simp [rb,flat,Lv.tid,Lv.has,T.Us,V];rw [<-rb,this,<-MU,eq_comm (a:=a),eq_comm (a:=b)]
 | rcv a y p G=>
  intro x H;have z:x≠y/\x∉BV p:=by simpa [BV]using H
  have V:(Lv.kept (flat p).1 (Lv.tid (flat p).2))=td p:=rfl;have :=G x z.2;simp [rb,flat,Lv.tid,Lv.has,T.Us,V,z.1];rw [<-rb,this,eq_comm (a:=a)];simp [Ni z.1]
 | tau p G=>
  intro x H;have V:(Lv.kept (flat p).1 (Lv.tid (flat p).2))=td p:=rfl;simp [rb,flat,Lv.tid,Lv.has,T.Us,V];rw [<-rb,G x H]
 | sum p q G J=>
  intro x H;have z:x∉BV p/\x∉BV q:=by simpa [BV]using H
  rw [rb,oI,Gn,Lv.dg,C4,C4];simp [T.Us,Lv.has,G x z.1,J x z.2]
 | par p q G J=>
  intro x H;have z:x∉BV p/\x∉BV q:=by simpa [BV]using H
  have e:(td (.par p q)).2=(td p).2.app (td q).2:=by simp only [rb,flat,Lv.cQ _ _ (cu p)]
  rw [e,Lv.dg];simp [T.Us,G x z.1,J x z.2]
 | res y p G=>
  intro x H;have z:x≠y/\x∉BV p:=by simpa [BV]using H
  show(td p).2.has x=true↔_;simp [T.Us,G x z.2,z.1]
 | mat a b p G=>
  intro x H;have :=G x H;rw [rb,pd];by_cases I:a=b
  ·subst I;simp [T.Us,this]
  ·rw [Ko I,dH];cases hd:p.dead with
   | true=>simp [Lv.has,T.Us,hd,I]
   | false=>
    simp [Lv.has,T.Us,hd,I,this];rw [<-MU,eq_comm (a:=a),eq_comm (a:=b)]
 | rep p G=>
  intro x H;rw [rb,oH,dH];cases hd:p.dead with
  | true=>simp [Lv.has,T.Us];exact T.bI hd
  | false=>simp [Lv.has,T.Us,G x H]
theorem pX (own:List Nat)(r:List Nat×Lv):Lv.kept [] (Lv.kept own r)=Lv.kept own r:=by
 simp [Lv.kept,List.filter_filter]
theorem ET (u:U):Lv.spl (cp u) ([],.nil)=td u:=by
 have z:=(bN u).2.2.2;have J:=(bN u).2.2.1;have G:(td u).2= .nil->(td u).1=[]:=by
  intro e;show List.filter (λx=>(td u).2.has x) _=[];rw [e];simp [Lv.has]
 unfold cp Lv.prt;split
 ·rename_i e;simp only [Lv.spl];exact Prod.ext (G e).symm e.symm
 ·rename_i H e;split
  ·rename_i I;rw [Lv.a6];have :=z H e;unfold Lv.spl;split
   ·simp [Lv.len]at this
   ·simp [Lv.len]at this
   ·exact Prod.ext (by simpa using I.symm) e.symm
  ·simp [Lv.spl,Lv.a6]
 ·simp [Lv.spl,Lv.a6]
theorem filter_false {l:List Nat}{f:Nat->Bool}(h:∀x∈l,f x=false):l.filter f=[]:=by
 simpa [List.filter_eq_nil_iff]using h
def Lv.WO:Lv->Prop
 | .nil=>True
 | .thr _ _ _ o r n=>(∀x∈o,r.has x=true)/\r.WO/\n.WO
 | .sum z n=>z.WO/\n.WO
 | .part o q n=>(∀x∈o,q.has x=true)/\q.WO/\n.WO
theorem qh:∀l m:Lv,(l.app m).WO↔l.WO/\m.WO
 | .nil,m=>by simp [Lv.app,Lv.WO]
 | .thr k a b o r n,m=>by simp only [Lv.app,Lv.WO,qh n m,Mo]
 | .sum z n,m=>by simp only [Lv.app,Lv.WO,qh n m,Mo]
 | .part o q n,m=>by simp only [Lv.app,Lv.WO,qh n m,Mo]
theorem tb (own:List Nat)(r:List Nat×Lv):∀x∈(Lv.kept own r).1,(Lv.kept own r).2.has x=true:=by
 intro y z;simp only [Lv.kept,L5]at z;exact z.2
theorem Hg {o:List Nat}{q n:Lv}(h:∀x∈o,q.has x=true)(G:q.WO)(z:n.WO):(Lv.prt o q n).WO:=by
 unfold Lv.prt;split
 ·exact z
 ·split
  ·exact(qh _ _).2 ⟨G.1,z⟩
  ·exact⟨h,G,z⟩
 ·exact⟨h,G,z⟩
theorem AX:∀(l:Lv),(Lv.tid l).2.WO/\∀x∈(Lv.tid l).1,(Lv.tid l).2.has x=true:=by
 intro l
 induction l with
 | nil=>exact⟨trivial,λx G=>by simp [Lv.tid]at G⟩
 | thr k a b o r n I z=>
  have V:=tb o (Lv.tid r);simp only [Lv.tid];split
  ·refine⟨(qh _ _).2 ⟨I.1,z.1⟩,λx G=>?_⟩;simp only [Ke]at G;rw [Lv.dg];rcases G with G | G
   ·simp [V x G]
   ·simp [z.2 x G]
  ·split
   ·exact z
   ·refine⟨⟨V,I.1,z.1⟩,λx G=>?_⟩;simp [Lv.has,z.2 x G]
 | sum W n H z=>
  simp only [Lv.tid];unfold Lv.spl;split
  ·exact z
  ·rename_i o q e;rw [e]at H;refine⟨(qh _ _).2 ⟨H.1.2.1,z.1⟩,λx G=>?_⟩;simp only [Ke]at G;rw [Lv.dg];rcases G with G | G
   ·simp [H.1.1 x G]
   ·simp [z.2 x G]
  ·exact⟨⟨H.1,z.1⟩,λx G=>by simp [Lv.has,z.2 x G]⟩
 | part o q n J z=>
  simp only [Lv.tid];exact⟨Hg (tb o _) J.1 z.1,λx G=>by simp at G⟩
theorem vu:∀(u:U),(∀x∈(flat u).1,x∈BV u)/\∀x∈(Lv.tid (flat u).2).1,x∈BV u:=by
 intro u;have I:∀u:U,((∀x∈(flat u).1,x∈BV u)/\∀x∈(Lv.tid (flat u).2).1,x∈BV u)->∀x∈(td u).1,x∈BV u:=by
  intro u h x z;have z:x∈(Lv.kept (flat u).1 (Lv.tid (flat u).2)).1:=z;simp only [Lv.kept,L5,Ke]at z;exact z.1.elim (h.1 x) (h.2 x)
 have V:∀u:U,(∀x∈(td u).1,x∈BV u)->∀o q n,cp u= .part o q n->(2<=(cp u).len)\/∀x∈o,x∈BV u:=by
  intro u h o q n e;have h1:=(bN u).2.2.2;unfold cp Lv.prt at e|-;split at e
  ·cases e
  ·rename_i ps e';split at e
   ·rename_i hh;rw [KG hh];left;rw [Lv.a6];exact h1 ps e'
   ·cases e;exact .inr h
  ·cases e;exact .inr h
 induction u with
 | nil=>simp [flat,Lv.tid]
 | snd a b p G=>simp [flat,Lv.tid]
 | rcv a x p G=>simp [flat,Lv.tid]
 | tau p G=>simp [flat,Lv.tid]
 | rep p G=>rw [oH];split<;>simp [flat]
 | mat a b p G=>
  rw [pd];refine⟨by simp [flat],?_⟩;split
  ·exact I p G
  ·split<;>simp
 | res x p G=>
  refine⟨λy J=>?_,λy J=>Ki _ (G.2 y J)⟩;simp only [flat,Ks]at J;rcases J with rfl | J
  ·exact KR ..
  ·exact Ki _ (G.1 y J)
 | par p q G H=>
  simp only [flat,Lv.cQ _ _ (cu p),Ke,BV];exact⟨λx z=>z.imp (G.1 x) (H.1 x),λx z=>z.imp (G.2 x) (H.2 x)⟩
 | sum p q G H=>
  refine⟨by simp [flat],?_⟩;rw [oI];intro x z;unfold Lv.spl at z;split at z
  ·simp at z
  ·rename_i o r e;simp only [KJ]at z;simp only [BV,Ke];have W:=Lb Lv.len e;rw [Lv.eh]at W;simp only [Lv.len]at W;rcases Mw (cp p).len with Z | Z
   ·rw [gK Z]at e;rcases V q (I q H) o r .nil e with h | h
    ·omega
    ·exact .inr (h x z)
   ·have:cp q= .nil:=gK (by omega);rw [this,Lv.a6]at e;rcases V p (I p G) o r .nil e with h | h
    ·omega
    ·exact .inl (h x z)
  ·simp at z
theorem Je (u:U):(td u).1=((flat u).1++(Lv.tid (flat u).2).1).filter λx=>(td u).2.has x:=rfl
theorem Ad {u:U}{x:Nat}(hb:x∉BV u)(z:¬u.Fr x):(td u).2.has x=false:=by
 cases h:(td u).2.has x with
 | false=>rfl
 | true=>exact absurd (T.bG ((fS u x hb).1 h)) z
theorem CV {l:List U}(h:(tp l).len=0):l=[]:=by
 rw [z7]at h;exact KD h
theorem sN (a b c d:List Nat):((a++b)++(c++d)).Perm ((a++c)++(b++d)):=by
 rw [KN,KN];refine List.Perm.append_left a ?_;rw [<-KN,<-KN];exact List.Perm.append_right d Me
theorem fX:∀u:U,Uq u->(td u).2=tl (ak u).2/\(td u).1.Perm (ak u).1/\cp u=tp (an u):=by
 intro u
 induction u with
 | nil=>intro _;simp [td,Lv.tidy,Lv.kept,flat,Lv.tid,ak,tl,cp,Lv.prt,an,tp]
 | snd a b p G=>
  intro h;have hk:(Lv.kept (flat p).1 (Lv.tid (flat p).2))=td p:=rfl;have e:td (.snd a b p)=([],.thr .s a b (td p).1 (td p).2 .nil):=by simp [td,Lv.tidy,flat,Lv.tid,Lv.kept]
  refine⟨by rw [e];rfl,by rw [e];exact K9 _,?_⟩;rw [cp,an,tp,e];rfl
 | rcv a x p G=>
  intro h;have e:td (.rcv a x p)=([],.thr .r a x (td p).1 (td p).2 .nil):=by simp [td,Lv.tidy,flat,Lv.tid,Lv.kept]
  refine⟨by rw [e];rfl,by rw [e];exact K9 _,?_⟩;rw [cp,an,tp,e];rfl
 | tau p G=>
  intro h;have e:td (.tau p)=([],.thr .t 0 0 (td p).1 (td p).2 .nil):=by simp [td,Lv.tidy,flat,Lv.tid,Lv.kept]
  refine⟨by rw [e];rfl,by rw [e];exact K9 _,?_⟩;rw [cp,an,tp,e];rfl
 | rep p G=>
  intro h;have e:td (.rep p)=if p.dead then([],.nil)else([],.thr .p 0 0 (td p).1 (td p).2 .nil):=by
   show Lv.kept [] _=_;rw [oH,dH];split<;>simp [Lv.kept]
  unfold cp;rw [e,ak,an];split
  ·exact⟨rfl,K9 _,rfl⟩
  ·rename_i hd;rw [Ko hd]at e;refine⟨rfl,K9 _,?_⟩;rw [tp,e];rfl
 | mat a b p G=>
  intro h;have e:td (.mat a b p)=if a=b then td p else if p.dead then([],.nil)else([],.thr .m a b (td p).1 (td p).2 .nil):=by
   show Lv.kept [] _=_;rw [pd,dH];split
   ·exact pX _ _
   ·split<;>simp [Lv.kept]
  have G:=G h.mat;unfold cp;rw [e,ak,an];split
  ·exact G
  ·rename_i θ;rw [Ko θ]at e;split
   ·exact⟨rfl,K9 _,rfl⟩
   ·rename_i hd;rw [Ko hd]at e;refine⟨rfl,K9 _,?_⟩;rw [tp,e];rfl
 | res x p G=>
  intro h;obtain⟨h1,h2,V⟩:=G h.res;have H:(td (.res x p)).2=(td p).2:=rfl;have I:(td (.res x p)).1=if(td p).2.has x then x::(td p).1 else(td p).1:=by
   rw [Je,H];simp only [flat,K4,Nj];rfl
  refine⟨by rw [H];exact h1,?_,?_⟩
  ·rw [I,ak];split
   ·exact List.Perm.cons x h2
   ·exact h2
  ·rw [an];split
   ·rename_i z;rw [KG z]at I;unfold cp Lv.prt;rw [tp,tp];split
    ·rename_i e;rw [H]at e;rw [e]at z;cases z
    ·rename_i ps e;rw [I];rw [Ko (by simp)]
    ·rw [I]
   ·rename_i z;rw [Ko z]at I;rw [<-V,cp,cp,I,H]
 | par p q G W=>
  intro h;obtain⟨h1,h2,V⟩:=G h.fT;obtain⟨k1,k2,k3⟩:=W h.fM;have H:(td (.par p q)).2=(td p).2.app (td q).2:=by simp only [rb,flat,Lv.cQ _ _ (cu p)]
  have I:(td (.par p q)).1=(((flat p).1++(flat q).1)++((Lv.tid (flat p).2).1++(Lv.tid (flat q).2).1)).filter λx=>(td p).2.has x||(td q).2.has x:=by
   rw [Je,H];simp only [flat,Lv.cQ _ _ (cu p)];exact Mp λx _=>Lv.dg x _ _
  have δ:=KL.1 h.nd;have ε:∀x,x∈BV p->(td q).2.has x=false:=λx z=>Ad (λhq=>δ.2.2 x z x hq rfl) λhf=>h.nf x (KH _ z) (.inr hf)
  have ζ:∀x,x∈BV q->(td p).2.has x=false:=λx z=>Ad (λhq=>δ.2.2 x hq x z rfl) λhf=>h.nf x (KB _ z) (.inl hf)
  have η:((flat p).1++(Lv.tid (flat p).2).1).filter (λx=>(td p).2.has x||(td q).2.has x)=(td p).1:=by
   rw [Je];refine Mp λx z=>?_
   rw [ε x ((Ke.1 z).elim ((vu p).1 x) ((vu p).2 x)),Ms]
  have Z:((flat q).1++(Lv.tid (flat q).2).1).filter (λx=>(td p).2.has x||(td q).2.has x)=(td q).1:=by
   rw [Je];refine Mp λx z=>?_
   rw [ζ x ((Ke.1 z).elim ((vu q).1 x) ((vu q).2 x)),MH]
  refine⟨by rw [H,h1,k1,ak,gI],?_,?_⟩
  ·rw [I,ak];refine((sN _ _ _ _).filter _).trans ?_;rw [LO,η,Z];exact h2.append k2
  ·rw [an];split
   ·rename_i hd;have ep:=mM hd;have ι:(Lv.tid (flat p).2).1=[]:=by
     refine Mg.2 λx z=>?_
     have :=(AX (flat p).2).2 x z;rw [<-rb,ep]at this;cases this
    have J:(flat p).1.filter (λx=>(td p).2.has x||(td q).2.has x)=[]:=filter_false λx z=>by
     rw [ep,ε x ((vu p).1 x z)];rfl
    rw [<-k3,cp,cp,I,H,ep];rw [ι,KZ,KN,LO];rw [ep]at J Z;rw [J,KZ,Z];rfl
   ·split
    ·rename_i hd;have α:=mM hd;have κ:(Lv.tid (flat q).2).1=[]:=by
      refine Mg.2 λx z=>?_
      have :=(AX (flat q).2).2 x z;rw [<-rb,α]at this;cases this
     have J:(flat q).1.filter (λx=>(td p).2.has x||(td q).2.has x)=[]:=filter_false λx z=>by
      rw [α,ζ x ((vu q).1 x z)];rfl
     rw [<-V,cp,cp,I,H,κ,KJ,LO,LO,J,KJ,<-LO,η,α,Lv.a6]
    ·rename_i β γ;have l1:=(lK p).1 (by simpa using β);have l2:=(lK q).1 (by simpa using γ);have hl:2<=(td (.par p q)).2.len:=by rw [H,Lv.eh];omega
     unfold cp Lv.prt;rw [tp,tp];split
     ·rename_i e;rw [e]at hl;simp [Lv.len]at hl
     ·rename_i ps e;rw [e]at hl;simp [Lv.len]at hl
     ·rfl
 | sum p q G W=>
  intro h;obtain⟨h1,h2,V⟩:=G h.ec;obtain⟨k1,k2,k3⟩:=W h.dL;have e:td (.sum p q)=if p.dead then td q else if q.dead then td p else([],.sum (tp (an p++an q)) .nil):=by
   show Lv.kept [] _=_;rw [oI];split
   ·rename_i hd;rw [gK ((bN p).2.1.2 hd)];show Lv.kept [] (Lv.spl (cp q) ([],.nil))=_;rw [ET];exact pX _ _
   ·rename_i β;split
    ·rename_i hd;rw [gK ((bN q).2.1.2 hd),Lv.a6,ET];exact pX _ _
    ·rename_i γ;have l1:(cp p).len≠0:=λe=>β ((bN p).2.1.1 e)
     have l2:(cp q).len≠0:=λe=>γ ((bN q).2.1.1 e)
     rw [V,k3,<-tc]at*;have:2<=(tp (an p++an q)).len:=by rw [tc,Lv.eh];omega
     unfold Lv.spl;split
     ·rename_i e;rw [e]at this;simp [Lv.len]at this
     ·rename_i e;rw [e]at this;simp [Lv.len]at this
     ·simp [Lv.kept]
  unfold cp;rw [e,ak,an];split
  ·rename_i hd;have:an p=[]:=CV (by rw [<-V];exact(bN p).2.1.2 hd);rw [this,KZ];exact⟨k1,k2,k3⟩
  ·split
   ·rename_i hd;have:an q=[]:=CV (by rw [<-k3];exact(bN q).2.1.2 hd);rw [this,KJ];exact⟨h1,h2,V⟩
   ·exact⟨rfl,K9 _,by simp [Lv.prt,Lv.a6]⟩
abbrev Tx:=List UInt8
def T.text:T UInt8->Tx
 | .nil=>[48]
 | .snd a b p=>a::33::b::46::p.text
 | .rcv a x p=>a::63::x::46::p.text
 | .tau p=>126::46::p.text
 | .sum p q=>40::(p.text++(43::(q.text++[41])))
 | .par p q=>40::(p.text++(38::(q.text++[41])))
 | .res x p=>35::x::46::p.text
 | .mat a b p=>91::a::61::b::93::p.text
 | .rep p=>42::p.text
def jD (s t:Tx):Bool:=decide (s<=t)
theorem gB (a b c:Tx)(h:jD a b=true)(k:jD b c=true):jD a c=true:=by
 simp only [jD,J4]at*;exact List.le_trans h k
theorem pG (a b:Tx):(jD a b||jD b a)=true:=by
 simp only [jD,Lm,J4];exact List.le_total a b
theorem yH (a b:Tx)(h:jD a b=true)(k:jD b a=true):a=b:=by
 simp only [jD,J4]at*;exact List.le_antisymm h k
def a7 (l:List Tx):List Tx:=l.mergeSort jD
theorem aO (l:List Tx):(a7 l).Perm l:=List.mergeSort_perm l jD
theorem jM (l:List Tx):(a7 l).Pairwise (λa b=>jD a b=true):=List.pairwise_mergeSort gB pG l
theorem tj {l m:List Tx}(hm:m.Pairwise (λa b=>jD a b=true))(z:m.Perm l):a7 l=m:=
 List.Perm.eq_of_pairwise (λa b _ _=>yH a b) (jM l) hm ((aO l).trans z.symm)
theorem kP {l m:List Tx}(h:l.Perm m):a7 l=a7 m:=tj (jM m) ((aO m).trans h.symm)
def joinS (sign:UInt8):List Tx->Tx
 | []=>[]
 | [s]=>s
 | s::l=>40::(s++(sign::(joinS sign l++[41])))
def bP (l:List Tx):Tx:=(a7 l).headD []
theorem cM {l:List Tx}(h:l≠[]):bP l∈l/\∀s∈l,jD (bP l) s=true:=by
 have z:=aO l;have G:=jM l;unfold bP;cases e:a7 l with
 | nil=>rw [e]at z;exact absurd z.symm.eq_nil h
 | cons a r=>
  rw [e]at z G;refine⟨z.subset (KR ..),λs hm=>?_⟩;have :=z.symm.subset hm;rcases Ks.1 this with rfl | hr
  ·simp [jD]
  ·exact(Mh.1 G).1 s hr
theorem gC {l:List Tx}{r:Tx}(h:r∈l)(G:∀s∈l,jD r s=true):bP l=r:=by
 have z:l≠[]:=λe=>by rw [e]at h;cases h
 obtain⟨H,h2⟩:=cM z;exact yH _ _ (h2 r h) (G _ H)
theorem oM {l m:List Tx}(h:∀s,s∈l↔s∈m):bP l=bP m:=by
 by_cases G:l=[]
 ·subst G;have:m=[]:=Mg.2 λs z=>by have :=(h s).2 z;cases this
  rw [this]
 ·have hm:m≠[]:=λe=>G (Mg.2 λs z=>by have :=(h s).1 z;rw [e]at this;cases this)
  obtain⟨H,h2⟩:=cM hm;exact gC ((h _).2 H) λs z=>h2 s ((h s).1 z)
theorem Gz (h:Tx)(s t:Tx):jD (h++s) (h++t)=jD s t:=by
 unfold jD
 congr 1
 induction h with
 | nil=>rfl
 | cons a h z=>simp only [K4,List.cons_le_cons_iff,MV,Mc,NJ,z]
theorem tN (h:Tx){l:List Tx}(z:l≠[]):bP (l.map (h++·))=h++bP l:=by
 obtain⟨G,h2⟩:=cM z;refine gC (LG G) λs H=>?_
 obtain⟨t,I,rfl⟩:=KQ.1 H;rw [Gz];exact h2 t I
def ins {α:Type}(x:α):List α->List (List α)
 | []=>[[x]]
 | y::l=>(x::y::l)::(ins x l).map (y::·)
def perms {α:Type}:List α->List (List α)
 | []=>[[]]
 | x::l=>(perms l).flatMap (ins x)
theorem rV {α:Type}(x:α):∀(l m:List α),m∈ins x l↔∃s t,l=s++t/\m=s++x::t
 | [],m=>by
  simp only [ins,Kf];constructor
  ·rintro rfl;exact⟨[],[],rfl,rfl⟩
  ·rintro⟨s,t,e,rfl⟩
   obtain⟨rfl,rfl⟩:=List.append_eq_nil_iff.1 e.symm;rfl
 | y::l,m=>by
  simp only [ins,Ks,KQ];constructor
  ·rintro(rfl | ⟨m',hm,rfl⟩)
   ·exact⟨[],y::l,rfl,rfl⟩
   ·obtain⟨s,t,rfl,rfl⟩:=(rV x l m').1 hm;exact⟨y::s,t,rfl,rfl⟩
  ·rintro⟨s,t,e,rfl⟩
   cases s with
   | nil=>simp only [KZ]at e;subst e;exact .inl rfl
   | cons z s=>
    simp only [K4,KW]at e;obtain⟨rfl,rfl⟩:=e;exact .inr ⟨s++x::t,(rV x _ _).2 ⟨s,t,rfl,rfl⟩,rfl⟩
theorem cZ {α:Type}:∀(l m:List α),m∈perms l↔m.Perm l
 | [],m=>by simp [perms]
 | x::l,m=>by
  simp only [perms,KU];constructor
  ·rintro⟨m',z,h2⟩
   obtain⟨s,t,rfl,rfl⟩:=(rV x m' m).1 h2;exact MO.trans (List.Perm.cons x ((cZ l _).1 z))
  ·intro h;obtain⟨s,t,rfl⟩:=List.append_of_mem (h.symm.subset (KR ..));exact⟨s++t,(cZ l _).2 ((NA x).1 (MO.symm.trans h)),(rV x _ _).2 ⟨s,t,rfl,rfl⟩⟩
theorem pe {α:Type}(l:List α):perms l≠[]:=λe=>by
 have :=(cZ l l).2 (K9 l);rw [e]at this;cases this
def iO:List UInt8:=(List.range 26).map λi=>UInt8.ofNat (97+i)
abbrev Tk:=UInt8->Bool
def uj (tk:Tk):Option UInt8:=iO.find? λc=> !tk c
def iK (tk:Tk):UInt8:=(uj tk).getD 122
def cA (tk:Tk)(c:UInt8):Tk:=λd=>tk d||d==c
def lets:Nat->Tk->List UInt8
 | 0,_=>[]
 | n+1,tk=>iK tk::lets n (cA tk (iK tk))
def addK:List UInt8->Tk->Tk
 | [],tk=>tk
 | c::l,tk=>addK l (cA tk c)
def gu:Nat->Tk->Bool
 | 0,_=>false
 | n+1,tk=>(uj tk).isNone||gu n (cA tk (iK tk))
abbrev Rh:=Nat->UInt8
def asg:List Nat->List UInt8->Rh->Rh
 | x::π,c::l,ρ=>asg π l (aF ρ x c)
 | _,_,ρ=>ρ
def wrap:List UInt8->Tx->Tx
 | [],s=>s
 | c::l,s=>35::c::46::wrap l s
theorem yl (l:List UInt8)(s:Tx):wrap l s=wrap l []++s:=by
 induction l with
 | nil=>rfl
 | cons c l z=>rw [wrap,z,wrap];rfl
theorem fB:∀(n:Nat) (tk:Tk),(lets n tk).length=n
 | 0,_=>rfl
 | n+1,tk=>by rw [lets,J0,fB]
def aR (own:List Nat)(f:Rh->Tk->List Tx)(ρ:Rh)(tk:Tk):Tx:=
 if(f ρ tk).isEmpty then [48]else
 let ls:=lets own.length tk
 wrap ls (bP ((perms own).map λπ=>joinS 38 (a7 (f (asg π ls ρ) (addK ls tk)))))
def kText (k:K)(a b:UInt8)(rest:Tx):Tx:=match k with
 | .s=>a::33::b::46::rest
 | .r=>a::63::b::46::rest
 | .t=>126::46::rest
 | .m=>91::(if b< a then b else a)::61::(if b< a then a else b)::93::rest
 | .p=>42::rest
def thS:Lv->Rh->Tk->List Tx
 | .nil,_,_=>[]
 | .thr k a b o r n,ρ,tk=>(match k with
   | .r=>kText .r (ρ a) (iK tk) (aR o (thS r) (aF ρ b (iK tk)) (cA tk (iK tk)))
   | k=>kText k (ρ a) (ρ b) (aR o (thS r) ρ tk))::thS n ρ tk
 | .sum z n,ρ,tk=>joinS 43 (a7 (thS z ρ tk))::thS n ρ tk
 | .part o q n,ρ,tk=>aR o (thS q) ρ tk::thS n ρ tk
def fQ (n:Nat)(nl:Bool)(f:Tk->Bool)(tk:Tk):Bool:= !nl&&(gu n tk||f (addK (lets n tk) tk))
def thBad:Lv->Tk->Bool
 | .nil,_=>false
 | .thr k _ _ o r n,tk=>(match k with
   | .r=>(uj tk).isNone||fQ o.length r.isNil (thBad r) (cA tk (iK tk))
   | _=>fQ o.length r.isNil (thBad r) tk)||thBad n tk
 | .sum z n,tk=>thBad z tk||thBad n tk
 | .part o q n,tk=>fQ o.length q.isNil (thBad q) tk||thBad n tk
def thAll:Lv->Nat
 | .nil=>0
 | .thr _ _ _ o r n=>o.length+thAll r+thAll n
 | .sum z n=>thAll z+thAll n
 | .part o q n=>o.length+thAll q+thAll n
def aw:Lv->Nat
 | .nil=>0
 | .thr _ _ _ o r n=>max (max o.length (aw r)) (aw n)
 | .sum z n=>max (aw z) (aw n)
 | .part o q n=>max (max o.length (aw q)) (aw n)
theorem bF:∀(l:Lv) (ρ:Rh) (tk:Tk),(thS l ρ tk).length=l.len
 | .nil,_,_=>rfl
 | .thr k a b o r n,ρ,tk=>by simp only [thS,J0,bF n,Lv.len]
 | .sum z n,ρ,tk=>by rw [thS,J0,bF n,Lv.len]
 | .part o q n,ρ,tk=>by rw [thS,J0,bF n,Lv.len]
theorem gk:∀(l m:Lv) (ρ:Rh) (tk:Tk),thS (l.app m) ρ tk=thS l ρ tk++thS m ρ tk
 | .nil,_,_,_=>rfl
 | .thr k a b o r n,m,ρ,tk=>by simp only [Lv.app,thS,gk n m,K4]
 | .sum z n,m,ρ,tk=>by simp only [Lv.app,thS,gk n m,K4]
 | .part o q n,m,ρ,tk=>by simp only [Lv.app,thS,gk n m,K4]
theorem cY:∀(l m:Lv) (tk:Tk),thBad (l.app m) tk=(thBad l tk||thBad m tk)
 | .nil,_,_=>by simp [Lv.app,thBad]
 | .thr k a b o r n,m,tk=>by simp only [Lv.app,thBad,cY n m,LC]
 | .sum z n,m,tk=>by simp only [Lv.app,thBad,cY n m,LC]
 | .part o q n,m,tk=>by simp only [Lv.app,thBad,cY n m,LC]
theorem cy:∀(l m:Lv),thAll (l.app m)=thAll l+thAll m
 | .nil,_=>by simp [Lv.app,thAll]
 | .thr k a b o r n,m=>by simp only [Lv.app,thAll,cy n m];omega
 | .sum z n,m=>by simp only [Lv.app,thAll,cy n m];omega
 | .part o q n,m=>by simp only [Lv.app,thAll,cy n m];omega
theorem cC:∀(l m:Lv),aw (l.app m)=max (aw l) (aw m)
 | .nil,_=>by simp [Lv.app,aw]
 | .thr k a b o r n,m=>by simp only [Lv.app,aw,cC n m];omega
 | .sum z n,m=>by simp only [Lv.app,aw,cC n m];omega
 | .part o q n,m=>by simp only [Lv.app,aw,cC n m];omega
theorem lI {own z:List Nat}{f g:Rh->Tk->List Tx}(h:own.Perm z)(H:∀ρ tk,(f ρ tk).Perm (g ρ tk))(ρ:Rh)(tk:Tk):aR own f ρ tk=aR z g ρ tk:=by
 unfold aR;have e:(f ρ tk).isEmpty=(g ρ tk).isEmpty:=by
  rw [K6,Nk,Nk];exact⟨λe=>by have :=H ρ tk;rw [e]at this;exact this.symm.eq_nil,λe=>by have :=H ρ tk;rw [e]at this;exact this.eq_nil⟩
 rw [e,h.length_eq];split
 ·rfl
 ·show wrap _ (bP _)=wrap _ (bP _)
  congr 1
  refine oM λs=>?_
  simp only [KQ,cZ];constructor
  ·rintro⟨π,G,rfl⟩
   exact⟨π,G.trans h,by rw [kP (H _ _)]⟩
  ·rintro⟨π,G,rfl⟩
   exact⟨π,G.trans h.symm,by rw [kP (H _ _)]⟩
def LS (u:U):Rh->Tk->Tx:=aR (td u).1 (thS (td u).2)
def dt (u:U):Tk->Bool:=fQ (td u).1.length (td u).2.isNil (thBad (td u).2)
def cO (u:U):Nat:=(td u).1.length+thAll (td u).2
def bj (u:U):Nat:=max (td u).1.length (aw (td u).2)
def FW:U->Bool
 | .snd .. =>true | .rcv .. =>true | .tau .. =>true | .mat .. =>true | .rep .. =>true | .sum .. =>true | _=>false
theorem vU:∀(u:U),∀t∈(ak u).2,FW t=true:=by
 intro u
 induction u with
 | nil=>intro t h;simp [ak]at h
 | snd a b p z=>intro t h;simp [ak]at h;subst h;rfl
 | rcv a b p z=>intro t h;simp [ak]at h;subst h;rfl
 | tau p z=>intro t h;simp [ak]at h;subst h;rfl
 | sum p q z G=>
  intro t h;simp only [ak]at h;split at h
  ·exact G t h
  ·split at h
   ·exact z t h
   ·simp at h;subst h;rfl
 | par p q z G=>intro t h;simp only [ak,Ke]at h;exact h.elim (z t) (G t)
 | res x p z=>exact z
 | mat a b p z=>
  intro t h;simp only [ak]at h;split at h
  ·exact z t h
  ·split at h
   ·simp at h
   ·simp at h;subst h;rfl
 | rep p z=>
  intro t h;simp only [ak]at h;split at h
  ·simp at h
  ·simp at h;subst h;rfl
def thU:U->Rh->Tk->Tx
 | .snd a b p,ρ,tk=>kText .s (ρ a) (ρ b) (LS p ρ tk)
 | .rcv a x p,ρ,tk=>kText .r (ρ a) (iK tk) (LS p (aF ρ x (iK tk)) (cA tk (iK tk)))
 | .tau p,ρ,tk=>kText .t 0 0 (LS p ρ tk)
 | .mat a b p,ρ,tk=>kText .m (ρ a) (ρ b) (LS p ρ tk)
 | .rep p,ρ,tk=>kText .p 0 0 (LS p ρ tk)
 | .sum p q,ρ,tk=>joinS 43 (a7 ((an p++an q).map λu=>LS u ρ tk))
 | _,_,_=>[]
theorem DT:∀(l:List U) (ρ:Rh) (tk:Tk),thS (tp l) ρ tk=l.map λu=>LS u ρ tk
 | [],_,_=>rfl
 | u::l,ρ,tk=>by rw [tp,thS,DT l];rfl
theorem CO:∀(l:List U),(∀t∈l,FW t=true)->∀(ρ:Rh) (tk:Tk),thS (tl l) ρ tk=l.map λu=>thU u ρ tk
 | [],_,_,_=>rfl
 | u::l,h,ρ,tk=>by
  have z:=CO l (λt G=>h t (Ki _ G)) ρ tk;have hu:=h u (KR ..);cases u<;>first | (cases hu;done) | (simp only [tl,thS,z,KE,DT];rfl)
theorem we {u:U}(h:Uq u)(ρ:Rh)(tk:Tk):LS u ρ tk=aR (ak u).1 (λρ tk=>(ak u).2.map λt=>thU t ρ tk) ρ tk:=by
 obtain⟨z,h2,_⟩:=fX u h;refine lI h2 (λρ tk=>?_) ρ tk;rw [z,CO _ (vU u)]
def nm (c:UInt8):Bool:=(97<=c&&c<=122)||(65<=c&&c<=90)||128<=c
def endI (l:Tx):Nat->Int->Int
 | 0,_=> -1
 | n+1,i=>
  if(l.length:Int)<=i then -1 else
  if bt l i.toNat=48 then i+1 else
  if bt l i.toNat=42 then endI l n (i+1)else
  if bt l i.toNat=126 then(if i+1< l.length/\bt l (i+1).toNat=46 then endI l n (i+2)else -1)else
  if bt l i.toNat=35 then(if i+2< l.length/\nm (bt l (i+1).toNat)=true/\bt l (i+2).toNat=46 then endI l n (i+3)else -1)else
  if bt l i.toNat=91 then(if i+4< l.length/\nm (bt l (i+1).toNat)=true/\bt l (i+2).toNat=61/\nm (bt l (i+3).toNat)=true/\bt l (i+4).toNat=93 then endI l n (i+5)else -1)else
  if bt l i.toNat=40 then
   (if endI l n (i+1)< 0\/(l.length:Int)<=endI l n (i+1)\/(bt l (endI l n (i+1)).toNat≠43/\bt l (endI l n (i+1)).toNat≠38)then -1 else
    if 0<=endI l n (endI l n (i+1)+1)/\endI l n (endI l n (i+1)+1)< l.length/\bt l (endI l n (endI l n (i+1)+1)).toNat=41 then endI l n (endI l n (i+1)+1)+1 else -1)else
  if nm (bt l i.toNat)=true then(if i+3< l.length/\(bt l (i+1).toNat=33\/bt l (i+1).toNat=63)/\nm (bt l (i+2).toNat)=true/\bt l (i+3).toNat=46 then endI l n (i+4)else -1)else -1
theorem AM (l:Tx):∀n i,0<=i->endI l n i= -1\/i< endI l n i/\endI l n i<=l.length:=by
 intro n;induction n with
 | zero=>intro i _;exact .inl rfl
 | succ n z=>
  intro i G;have H:=z (i+1) (by omega);have h2:=z (i+2) (by omega);have I:=z (i+3) (by omega);have h4:=z (i+4) (by omega);have h5:=z (i+5) (by omega);have J:=z (endI l n (i+1)+1);unfold endI
  repeat' split
  all_goals omega
def lt (c:UInt8):Bool:=97<=c&&c<=122
abbrev P:=T UInt8
def T.wf:P->Bool
 | .nil=>true | .snd a b p=>nm a&&nm b&&p.wf | .rcv a b p=>nm a&&nm b&&p.wf | .tau p=>p.wf | .sum p q=>p.wf&&q.wf
 | .par p q=>p.wf&&q.wf | .res x p=>nm x&&p.wf | .mat a b p=>nm a&&nm b&&p.wf | .rep p=>p.wf
def T.kind:P->UInt8
 | .nil=>48 | .snd .. =>33 | .rcv .. =>63 | .tau _=>126 | .sum .. =>43 | .par .. =>38 | .res .. =>35 | .mat .. =>61 | .rep _=>42
def T.parts:P->List P
 | .nil=>[] | .snd _ _ p=>[p] | .rcv _ _ p=>[p] | .tau p=>[p] | .sum p q=>[p,q] | .par p q=>[p,q] | .res _ p=>[p] | .mat _ _ p=>[p] | .rep p=>[p]
theorem EG (t:P):0< t.text.length:=by cases t<;>simp [T.text]
theorem bD:∀t:P,t.size<=t.text.length
 | .nil=>by simp [T.size,T.text]
 | .snd a b p=>by have :=bD p;simp only [T.size,T.text,J0];omega
 | .rcv a b p=>by have :=bD p;simp only [T.size,T.text,J0];omega
 | .tau p=>by have :=bD p;simp only [T.size,T.text,J0];omega
 | .res a p=>by have :=bD p;simp only [T.size,T.text,J0];omega
 | .mat a b p=>by have :=bD p;simp only [T.size,T.text,J0];omega
 | .rep p=>by have :=bD p;simp only [T.size,T.text,J0];omega
 | .sum p q=>by have :=bD p;have :=bD q;simp only [T.size,T.text,J0,J',Kh];omega
 | .par p q=>by have :=bD p;have :=bD q;simp only [T.size,T.text,J0,J',Kh];omega
theorem drop_cons {l:Tx}{i:Nat}{c:UInt8}{r:Tx}(h:l.drop i=c::r):i< l.length/\bt l i=c/\l.drop (i+1)=r:=by
 have z:i< l.length:=by
  rcases LF i l.length with G | G
  ·exact G
  ·rw [LI G]at h;cases h
 have e:=K0 z;rw [h]at e;simp only [KW]at e;refine⟨z,?_,e.2.symm⟩;rw [e.1];simp [bt,z]
theorem bJ {l:Tx}{i:Nat}(h:i< l.length):l.drop i=bt l i::l.drop (i+1):=by
 rw [K0 h];simp [bt,h]
theorem te {c:UInt8}(h:nm c=true):c≠48/\c≠42/\c≠126/\c≠35/\c≠91/\c≠40:=by
 refine⟨?_,?_,?_,?_,?_,?_⟩<;>rintro rfl<;>revert h<;>decide
theorem vh {l:Tx}:∀(t:P) (n i:Nat) (r:Tx),t.wf=true->t.size<=n->l.drop i=t.text++r->endI l n i=((i+t.text.length:Nat):Int):=by
 intro t
 induction t with
 | nil=>
  intro n i r hw z h;obtain⟨n,rfl⟩:∃m,n=m+1:=⟨n - 1,by simp only [T.size]at z;omega⟩
  obtain⟨h1,h2,_⟩:=drop_cons h;unfold endI;rw [Ko (by omega),J9,KG h2];simp [T.text]
 | rep p H=>
  intro n i r hw z h;simp only [T.size]at z;obtain⟨n,rfl⟩:∃m,n=m+1:=⟨n - 1,by omega⟩
  obtain⟨h1,h2,G⟩:=drop_cons h;unfold endI;rw [Ko (by omega),J9,Ko (by rw [h2];decide),KG h2];have :=H n (i+1) r hw (by omega) G;rw [Int.natCast_add]at this;simp only [Int.natCast_one]at this;rw [this];simp only [T.text,J0];omega
 | tau p H=>
  intro n i r hw z h;simp only [T.size]at z;obtain⟨n,rfl⟩:∃m,n=m+1:=⟨n - 1,by omega⟩
  obtain⟨h1,h2,G⟩:=drop_cons h;obtain⟨k1,V,I⟩:=drop_cons G;have Z:((i:Int)+1).toNat=i+1:=by omega
  have :=H n (i+2) r hw (by omega) I;have e2:(i:Int)+2=((i+2:Nat):Int):=by omega
  unfold endI;rw [Ko (by omega),J9,Z,e2,h2,V,this];rw [Ko (by decide),Ko (by decide),KG rfl,KG ⟨by omega,rfl⟩];simp only [T.text,J0];omega
 | res x p H=>
  intro n i r hw z h;simp only [T.size]at z;simp only [T.wf,J3]at hw;obtain⟨n,rfl⟩:∃m,n=m+1:=⟨n - 1,by omega⟩
  obtain⟨h1,h2,G⟩:=drop_cons h;obtain⟨k1,V,I⟩:=drop_cons G;obtain⟨m1,W,m3⟩:=drop_cons I;have Z:((i:Int)+1).toNat=i+1:=by omega
  have J:((i:Int)+2).toNat=i+1+1:=by omega
  have :=H n (i+3) r hw.2 (by omega) m3;have e2:(i:Int)+3=((i+3:Nat):Int):=by omega
  unfold endI;rw [Ko (by omega),J9,Z,J,e2,h2,V,W,this];rw [Ko (by decide),Ko (by decide),Ko (by decide),KG rfl,KG ⟨by omega,hw.1,rfl⟩];simp only [T.text,J0];omega
 | mat a b p H=>
  intro n i r hw z h;simp only [T.size]at z;simp only [T.wf,J3]at hw;obtain⟨n,rfl⟩:∃m,n=m+1:=⟨n - 1,by omega⟩
  obtain⟨h1,h2,G⟩:=drop_cons h;obtain⟨k1,V,I⟩:=drop_cons G;obtain⟨m1,W,m3⟩:=drop_cons I;obtain⟨o1,o2,o3⟩:=drop_cons m3;obtain⟨q1,q2,q3⟩:=drop_cons o3;have Z:((i:Int)+1).toNat=i+1:=by omega
  have J:((i:Int)+2).toNat=i+1+1:=by omega
  have e3:((i:Int)+3).toNat=i+1+1+1:=by omega
  have e4:((i:Int)+4).toNat=i+1+1+1+1:=by omega
  have :=H n (i+5) r hw.2 (by omega) q3;have e2:(i:Int)+5=((i+5:Nat):Int):=by omega
  unfold endI;rw [Ko (by omega),J9,Z,J,e2,e3,e4,h2,V,W,o2,q2,this];rw [Ko (by decide),Ko (by decide),Ko (by decide),Ko (by decide),KG rfl,KG ⟨by omega,hw.1.1,rfl,hw.1.2,rfl⟩];simp only [T.text,J0];omega
 | snd a b p H=>
  intro n i r hw z h;simp only [T.size]at z;simp only [T.wf,J3]at hw;obtain⟨n,rfl⟩:∃m,n=m+1:=⟨n - 1,by omega⟩
  obtain⟨h1,h2,G⟩:=drop_cons h;obtain⟨k1,V,I⟩:=drop_cons G;obtain⟨m1,W,m3⟩:=drop_cons I;obtain⟨o1,o2,o3⟩:=drop_cons m3;have Z:((i:Int)+1).toNat=i+1:=by omega
  have J:((i:Int)+2).toNat=i+1+1:=by omega
  have e3:((i:Int)+3).toNat=i+1+1+1:=by omega
  have :=H n (i+4) r hw.2 (by omega) o3;have e2:(i:Int)+4=((i+4:Nat):Int):=by omega
  obtain⟨n1,n2,n3,n4,n5,n6⟩:=te hw.1.1;unfold endI;rw [Ko (by omega),J9,Z,J,e2,e3,h2,V,W,o2,this];rw [Ko n1,Ko n2,Ko n3,Ko n4,Ko n5,Ko n6,KG hw.1.1,KG ⟨by omega,.inl rfl,hw.1.2,rfl⟩];simp only [T.text,J0];omega
 | rcv a b p H=>
  intro n i r hw z h;simp only [T.size]at z;simp only [T.wf,J3]at hw;obtain⟨n,rfl⟩:∃m,n=m+1:=⟨n - 1,by omega⟩
  obtain⟨h1,h2,G⟩:=drop_cons h;obtain⟨k1,V,I⟩:=drop_cons G;obtain⟨m1,W,m3⟩:=drop_cons I;obtain⟨o1,o2,o3⟩:=drop_cons m3;have Z:((i:Int)+1).toNat=i+1:=by omega
  have J:((i:Int)+2).toNat=i+1+1:=by omega
  have e3:((i:Int)+3).toNat=i+1+1+1:=by omega
  have :=H n (i+4) r hw.2 (by omega) o3;have e2:(i:Int)+4=((i+4:Nat):Int):=by omega
  obtain⟨n1,n2,n3,n4,n5,n6⟩:=te hw.1.1;unfold endI;rw [Ko (by omega),J9,Z,J,e2,e3,h2,V,W,o2,this];rw [Ko n1,Ko n2,Ko n3,Ko n4,Ko n5,Ko n6,KG hw.1.1,KG ⟨by omega,.inr rfl,hw.1.2,rfl⟩];simp only [T.text,J0];omega
 | sum p q H α=>
  intro n i r hw z h;simp only [T.size]at z;simp only [T.wf,J3]at hw;obtain⟨n,rfl⟩:∃m,n=m+1:=⟨n - 1,by omega⟩
  have h:l.drop i=40::(p.text++43::(q.text++41::r)):=by rw [h];simp [T.text]
  obtain⟨h1,h2,G⟩:=drop_cons h;have e:=H n (i+1) _ hw.1 (by omega) G;have h4:l.drop (i+1+p.text.length)=43::(q.text++41::r):=by
   rw [<-M7,G,M8]
  obtain⟨k1,V,I⟩:=drop_cons h4;have e':=α n (i+1+p.text.length+1) _ hw.2 (by omega) I;have h5:l.drop (i+1+p.text.length+1+q.text.length)=41::r:=by
   rw [<-M7,I,M8]
  obtain⟨m1,W,m3⟩:=drop_cons h5;have c1:(i:Int)+1=((i+1:Nat):Int):=by omega
  have c2:((i+1+p.text.length:Nat):Int)+1=((i+1+p.text.length+1:Nat):Int):=by omega
  unfold endI;rw [Ko (by omega)];simp only [J9,h2,c1,e,c2,e',V,W];rw [Ko (by decide),Ko (by decide),Ko (by decide),Ko (by decide),Ko (by decide),KG trivial,Ko,KG ⟨by omega,by omega,trivial⟩]
  ·simp only [T.text,J0,J',Kh];omega
  ·rintro(hh | hh | hh)
   ·omega
   ·omega
   ·exact hh.1 rfl
 | par p q H α=>
  intro n i r hw z h;simp only [T.size]at z;simp only [T.wf,J3]at hw;obtain⟨n,rfl⟩:∃m,n=m+1:=⟨n - 1,by omega⟩
  have h:l.drop i=40::(p.text++38::(q.text++41::r)):=by rw [h];simp [T.text]
  obtain⟨h1,h2,G⟩:=drop_cons h;have e:=H n (i+1) _ hw.1 (by omega) G;have h4:l.drop (i+1+p.text.length)=38::(q.text++41::r):=by
   rw [<-M7,G,M8]
  obtain⟨k1,V,I⟩:=drop_cons h4;have e':=α n (i+1+p.text.length+1) _ hw.2 (by omega) I;have h5:l.drop (i+1+p.text.length+1+q.text.length)=41::r:=by
   rw [<-M7,I,M8]
  obtain⟨m1,W,m3⟩:=drop_cons h5;have c1:(i:Int)+1=((i+1:Nat):Int):=by omega
  have c2:((i+1+p.text.length:Nat):Int)+1=((i+1+p.text.length+1:Nat):Int):=by omega
  unfold endI;rw [Ko (by omega)];simp only [J9,h2,c1,e,c2,e',V,W];rw [Ko (by decide),Ko (by decide),Ko (by decide),Ko (by decide),Ko (by decide),KG trivial,Ko,KG ⟨by omega,by omega,trivial⟩]
  ·simp only [T.text,J0,J',Kh];omega
  ·rintro(hh | hh | hh)
   ·omega
   ·omega
   ·exact hh.2 rfl
theorem zc {l:Tx}:∀(n i:Nat),0<=endI l n i->∃t:P,t.wf=true/\l.drop i=t.text++l.drop (endI l n i).toNat:=by
 intro n
 induction n with
 | zero=>intro i h;simp [endI]at h
 | succ n I=>
  intro i h;have θ:∀i:Nat,0<=endI l n i->∃t:P,t.wf=true/\l.drop i=t.text++l.drop (endI l n i).toNat:=I;have c1:(i:Int)+1=((i+1:Nat):Int):=by omega
  have c2:(i:Int)+2=((i+2:Nat):Int):=by omega
  have c3:(i:Int)+3=((i+3:Nat):Int):=by omega
  have c4:(i:Int)+4=((i+4:Nat):Int):=by omega
  have c5:(i:Int)+5=((i+5:Nat):Int):=by omega
  unfold endI at h|-;simp only [c1,c2,c3,c4,c5,J9]at h|-;split at h
  ·omega
  rename_i hi;have hl:i< l.length:=by omega
  rw [Ko hi];rw [bJ hl];split at h
  ·rename_i hc;rw [KG hc];exact⟨.nil,rfl,by rw [hc];rfl⟩
  rename_i W;rw [Ko W];split at h
  ·rename_i hc;obtain⟨t,hw,G⟩:=I _ h;rw [KG hc];exact⟨.rep t,hw,by rw [hc,G];rfl⟩
  rename_i Z;rw [Ko Z];split at h
  ·rename_i hc;rw [KG hc];split at h
   ·rename_i z;obtain⟨t,hw,G⟩:=I _ h;rw [KG z];have H:i+1< l.length:=by omega
    exact⟨.tau t,hw,by rw [hc,bJ H,z.2,G];rfl⟩
   ·omega
  rename_i α;rw [Ko α];split at h
  ·rename_i hc;rw [KG hc];split at h
   ·rename_i z;obtain⟨t,hw,G⟩:=I _ h;rw [KG z];have H:i+1< l.length:=by omega
    have h2:i+1+1< l.length:=by omega
    exact⟨.res (bt l (i+1)) t,by simp [T.wf,hw,z.2.1],by rw [hc,bJ H,bJ h2,z.2.2,G];rfl⟩
   ·omega
  rename_i β;rw [Ko β];split at h
  ·rename_i hc;rw [KG hc];split at h
   ·rename_i z;obtain⟨t,hw,G⟩:=I _ h;rw [KG z];have H:i+1< l.length:=by omega
    have h2:i+1+1< l.length:=by omega
    have V:i+1+1+1< l.length:=by omega
    have h4:i+1+1+1+1< l.length:=by omega
    exact⟨.mat (bt l (i+1)) (bt l (i+3)) t,by simp [T.wf,hw,z.2.1,z.2.2.2.1],by
     rw [hc,bJ H,bJ h2,bJ V,bJ h4,z.2.2.1,z.2.2.2.2,G];rfl⟩
   ·omega
  rename_i γ;rw [Ko γ];split at h
  ·rename_i hc;rw [KG hc];split at h
   ·omega
   ·rename_i hm;rw [Ko hm];have δ:0<=endI l n ((i+1:Nat):Int):=by omega
    obtain⟨t,hw,G⟩:=I _ δ;generalize hM:(endI l n ((i+1:Nat):Int)).toNat=m at*;have ε:endI l n ((i+1:Nat):Int)=(m:Int):=by omega
    simp only [ε]at h hm|-;have cm:(m:Int)+1=((m+1:Nat):Int):=by omega
    simp only [cm]at h|-;split at h
    ·rename_i he;rw [KG he];obtain⟨u,J,hu⟩:=I _ he.1;have H:m< l.length:=by omega
     generalize hE:(endI l n ((m+1:Nat):Int)).toNat=e at*;have ζ:endI l n ((m+1:Nat):Int)=(e:Int):=by omega
     simp only [ζ]at he|-;have h2:e< l.length:=by omega
     have ce:(((e:Int)+1).toNat)=e+1:=by omega
     rw [ce];have hb:bt l m=43\/bt l m=38:=by
      by_cases hx:bt l m=43
      ·exact .inl hx
      ·by_cases hy:bt l m=38
       ·exact .inr hy
       ·exact absurd (.inr (.inr ⟨hx,hy⟩)) hm
     rcases hb with hb | hb
     ·exact⟨.sum t u,by simp [T.wf,hw,J],by rw [hc,G,bJ H,hb,hu,bJ h2,he.2.2];simp [T.text]⟩
     ·exact⟨.par t u,by simp [T.wf,hw,J],by rw [hc,G,bJ H,hb,hu,bJ h2,he.2.2];simp [T.text]⟩
    ·omega
  rename_i η;rw [Ko η];split at h
  ·rename_i hc;rw [KG hc];split at h
   ·rename_i z;obtain⟨t,hw,G⟩:=I _ h;rw [KG z];have H:i+1< l.length:=by omega
    have h2:i+1+1< l.length:=by omega
    have V:i+1+1+1< l.length:=by omega
    rcases z.2.1 with hb | hb
    ·exact⟨.snd (bt l i) (bt l (i+2)) t,by simp [T.wf,hw,z.2.2.1,hc],by rw [bJ H,bJ h2,bJ V,hb,z.2.2.2,G];rfl⟩
    ·exact⟨.rcv (bt l i) (bt l (i+2)) t,by simp [T.wf,hw,z.2.2.1,hc],by rw [bJ H,bJ h2,bJ V,hb,z.2.2.2,G];rfl⟩
   ·omega
  ·omega
theorem lS:∀{t u:P} {r r':Tx},t.wf=true->u.wf=true->t.text++r=u.text++r'->t=u/\r=r':=by
 intro t
 induction t<;>intro u r r' G hu h<;>cases u<;>
  simp only [T.text,T.wf,K4,KN,KZ,KW,J3]at h G hu
 case nil.nil=>exact⟨rfl,h.2⟩
 case snd.snd z _ _ _=>
  obtain⟨rfl,_,rfl,_,h⟩:=h;obtain⟨rfl,k⟩:=z G.2 hu.2 h;exact⟨rfl,k⟩
 case rcv.rcv z _ _ _=>
  obtain⟨rfl,_,rfl,_,h⟩:=h;obtain⟨rfl,k⟩:=z G.2 hu.2 h;exact⟨rfl,k⟩
 case mat.mat z _ _ _=>
  obtain⟨_,rfl,_,rfl,_,h⟩:=h;obtain⟨rfl,k⟩:=z G.2 hu.2 h;exact⟨rfl,k⟩
 case res.res z _ _=>
  obtain⟨_,rfl,_,h⟩:=h;obtain⟨rfl,k⟩:=z G.2 hu.2 h;exact⟨rfl,k⟩
 case tau.tau z _=>
  obtain⟨rfl,k⟩:=z G hu h.2.2;exact⟨rfl,k⟩
 case rep.rep z _=>
  obtain⟨rfl,k⟩:=z G hu h.2;exact⟨rfl,k⟩
 case sum.sum z H _ _=>
  obtain⟨rfl,k⟩:=z G.1 hu.1 h.2;obtain⟨rfl,m⟩:=H G.2 hu.2 (K8 k).2;exact⟨rfl,(K8 m).2⟩
 case par.par z H _ _=>
  obtain⟨rfl,k⟩:=z G.1 hu.1 h.2;obtain⟨rfl,m⟩:=H G.2 hu.2 (K8 k).2;exact⟨rfl,(K8 m).2⟩
 case sum.par z H _ _=>
  obtain⟨rfl,k⟩:=z G.1 hu.1 h.2;exact absurd (K8 k).1 (by decide)
 case par.sum z H _ _=>
  obtain⟨rfl,k⟩:=z G.1 hu.1 h.2;exact absurd (K8 k).1 (by decide)
 all_goals
  exfalso
  first
   | exact absurd h.1 (by decide)
   | exact absurd h.2.1 (by decide)
   | (have I:=te hu.1.1;rw [<-h.1]at I;simp at I;done)
   | (have I:=te G.1.1;rw [h.1]at I;simp at I;done)
theorem fH {t u:P}(z:t.wf=true)(hu:u.wf=true)(h:t.text=u.text):t=u:=
 (lS z hu (r:=[]) (r':=[]) (by rw [h])).1
end Go.Proofs.YtdecokaadekjnaaGreat
namespace Go.Proofs.YtdecokaadekjnaaGreat
open Go Go.RowKit
def Ex (w w':World):Prop:=Below w.heap.size w w'
theorem Ex.refl (w:World):Ex w w:=NH _ _
theorem Ex.trans {a b c:World}(h:Ex a b)(k:Ex b c):Ex a c:=LJ h (M9 k h.size)
theorem Ex.drew (w:World):Ex w w.drew:=Below.drew (NH _ _)
theorem Ex.alloc (w:World)(o:Obj):Ex w (w.alloc o):=Below.alloc (NH _ _) (Kb _) o
theorem Ex.cell {w w':World}(h:Ex w w'){a:Addr}(ha:a.block< w.heap.size):w'.cell? a=w.cell? a:=Below.cell h ha
theorem Ev {c:UInt8}{w:World}{R:Bool->World->Prop}(h:R (nm c) w):Calls Tryz.prog 161 #[.int .u8 c.toNat] w (ax [.b] R):=by
 refine sG c w R ?_;have e:nm c=true\/nm c=false:=by cases nm c<;>simp
 unfold nm at*
 grind
theorem pg (p:Tx)(W:p.length<=4611686018427387904):∀(n:Nat) (i:Int),0<=i->(p.length:Int) - i< n->i<=p.length+1->∀{w:World} {R:Int->World->Prop},R (endI p n i) w->
  Calls Tryz.prog 110 #[.string (ab p),.int .i64 i] w (ax [.i] R):=by
 intro n
 induction n with
 | zero=>
  intro i G H h2 w R h;refine nk p i w R ?_;exact⟨λ _=>h,λI=>by simp at I;omega⟩
 | succ n J=>
  intro i G H h2 w R h;refine nk p i w R ?_;have V:=AM p n (i+1) (by omega);have z:=AM p n (endI p n (i+1)+1);unfold endI at h;unfold aj
  repeat' first
   | refine Ev ?_
   | refine J _ ?_ ?_ ?_ ?_
   | refine And.intro ?_ ?_
   | intro _
  all_goals grind
structure Ok (t:P):Prop where
 wf:t.wf=true
 len:t.text.length<=1099511627776
def Strs (w:World)(v:Value)(l:List Tx):Prop:=
 (v= .slice none 0 0/\l=[])\/∃b off cap,v= .slice (some ⟨b,off,none⟩) l.length cap/\b< w.heap.size/\∀i x,l[i]?=some x->w.cell? ⟨b,off+i,none⟩=some (.string (ab x))
theorem Strs.ex {w w':World}{v:Value}{l:List Tx}(h:Strs w v l)(k:Ex w w'):Strs w' v l:=by
 rcases h with h | ⟨b,off,cap,z,h2,G⟩
 ·exact .inl h
 ·exact .inr ⟨b,off,cap,z,Kx h2 k.size,λi x H=>by rw [k.cell h2];exact G i x H⟩
theorem Strs.slice {w:World}{v:Value}{l:List Tx}(h:Strs w v l):∃a cap,v= .slice a l.length cap:=by
 rcases h with⟨h,rfl⟩ | ⟨b,off,cap,z,_⟩
 ·exact⟨_,_,h⟩
 ·exact⟨_,_,z⟩
theorem Strs.at {w:World}{v:Value}{l:List Tx}(h:Strs w v l){i:Nat}(z:i< l.length):
  ∃b off cap,v= .slice (some ⟨b,off,none⟩) l.length cap/\b< w.heap.size/\w.cell? ⟨b,off+i,none⟩=some (.string (ab l[i])):=by
 rcases h with⟨h,rfl⟩ | ⟨b,off,cap,G,h2,H⟩
 ·simp at z
 ·exact⟨b,off,cap,G,h2,H i _ (J2 z)⟩
theorem dc {p:Prop}{_:Decidable p}{A B:Prop}(h:p)(z:A):(decide p=true->A)/\(decide p=false->B):=⟨λ _=>z,λG=>absurd h (Kw G)⟩
theorem aV {p:Prop}{_:Decidable p}{A B:Prop}(h:¬p)(hB:B):(decide p=true->A)/\(decide p=false->B):=⟨λz=>absurd (Kv z) h,λ _=>hB⟩
theorem dN {p:Prop}{_:Decidable p}{A B:Prop}(h:p)(z:A):(decide p=false->B)/\(decide p=true->A):=⟨λG=>absurd h (Kw G),λ _=>z⟩
theorem cE {p:Prop}{_:Decidable p}{A B:Prop}(h:¬p)(hB:B):(decide p=false->B)/\(decide p=true->A):=⟨λ _=>hB,λz=>absurd (Kv z) h⟩
theorem aa {w:World}{c:Array Value}{el:Nat}{i:Nat}{v:Value}(h:c[i]?=some v):(w.alloc (.cells c el)).cell? ⟨w.heap.size,i,none⟩=some v:=by
 unfold World.cell? World.alloc;simp [h]
theorem size_alloc (w:World)(o:Obj):(w.alloc o).heap.size=w.heap.size+1:=by unfold World.alloc;simp
theorem pc (t:P)(hw:t.wf=true)(l:Tx)(i:Nat)(r:Tx)(h:l.drop i=t.text++r)(n:Nat)(z:(l.length:Int) - i< n):endI l n i=((i+t.text.length:Nat):Int):=by
 refine vh t n i r hw ?_ h;have G:=bD t;have h2:=Lb List.length h;simp only [LH,J']at h2;omega
theorem EP (l r:Tx)(i:Nat)(c:UInt8)(h:i=l.length):bt (l++c::r) i=c:=by
 subst h;simp [bt]
theorem aK {t:P}(ok:Ok t){w:World}{R:UInt8->World->Prop}(h:R t.kind w):Calls Tryz.prog 120 #[.string (ab t.text)] w (ax [.c] R):=by
 refine sF _ w R ?_;have hw:=ok.wf;have Z:=ok.len;cases t with
 | nil=>simpa [T.text,bt,T.kind]using h
 | rep p=>simpa [T.text,bt,T.kind]using h
 | tau p=>simp [T.text,bt];exact⟨by omega,h⟩
 | res x p=>simp [T.text,bt];exact⟨by omega,h⟩
 | mat a b p=>simp [T.text,bt];exact⟨by omega,h⟩
 | snd a b p=>
  simp only [T.wf,J3]at hw;obtain⟨n1,z,G,H,n5,I⟩:=te hw.1.1;simp [T.text,bt,n1,z,G,H,n5,I];exact⟨by omega,by omega,h⟩
 | rcv a b p=>
  simp only [T.wf,J3]at hw;obtain⟨n1,z,G,H,n5,I⟩:=te hw.1.1;simp [T.text,bt,n1,z,G,H,n5,I];exact⟨by omega,by omega,h⟩
 | sum p q=>
  simp only [T.wf,J3]at hw;have e:=pc p hw.1 (T.sum p q).text 1 (43::(q.text++[41])) rfl ((T.sum p q).text.length+1) (by omega);have J:bt (T.sum p q).text (1+p.text.length)=43:=EP (40::p.text) _ _ 43 (by simp;omega);have W:1+p.text.length< (T.sum p q).text.length:=by simp only [T.text,J0,J'];omega
  have e0:bt (T.sum p q).text 0=40:=rfl;simp only [Int.toNat_zero,e0];refine⟨by omega,?_⟩
  repeat' first | refine aV (by decide) ?_ | refine dc (by decide) ?_ | refine cE (by decide) ?_ | refine dN (by decide) ?_
  refine pg _ (by omega) _ 1 (by omega) (by omega:((T.sum p q).text.length:Int) - 1< ((T.sum p q).text.length+1:Nat)) (by omega) ?_;have V:endI (T.sum p q).text ((T.sum p q).text.length+1) 1=((1+p.text.length:Nat):Int):=e;rw [V];refine⟨by omega,?_⟩;rw [J9,J];exact h
 | par p q=>
  simp only [T.wf,J3]at hw;have e:=pc p hw.1 (T.par p q).text 1 (38::(q.text++[41])) rfl ((T.par p q).text.length+1) (by omega);have J:bt (T.par p q).text (1+p.text.length)=38:=EP (40::p.text) _ _ 38 (by simp;omega);have W:1+p.text.length< (T.par p q).text.length:=by simp only [T.text,J0,J'];omega
  have e0:bt (T.par p q).text 0=40:=rfl;simp only [Int.toNat_zero,e0];refine⟨by omega,?_⟩
  repeat' first | refine aV (by decide) ?_ | refine dc (by decide) ?_ | refine cE (by decide) ?_ | refine dN (by decide) ?_
  refine pg _ (by omega) _ 1 (by omega) (by omega:((T.par p q).text.length:Int) - 1< ((T.par p q).text.length+1:Nat)) (by omega) ?_;have V:endI (T.par p q).text ((T.par p q).text.length+1) 1=((1+p.text.length:Nat):Int):=e;rw [V];refine⟨by omega,?_⟩;rw [J9,J];exact h
def T.hd:P->Nat
 | .nil=>4 | .snd .. =>4 | .rcv .. =>4 | .tau _=>2 | .sum .. =>1 | .par .. =>1 | .res .. =>3 | .mat .. =>5 | .rep _=>1
theorem cX {t:P}(ok:Ok t){w:World}{R:Int->World->Prop}(h:R (t.hd:Int) w):Calls Tryz.prog 165 #[.string (ab t.text)] w (ax [.i] R):=by
 refine tn _ w R ?_;refine aK ok ?_;cases t<;>simpa [T.kind,T.hd]using h
theorem Ok.parts {t:P}(ok:Ok t):∀p∈t.parts,Ok p:=by
 have hw:=ok.wf;have z:=ok.len;cases t<;>simp only [T.parts,T.wf,T.text,J3,Ks,LY,Mq,J0,J']at hw z|-
 case nil=>intro p h;exact h.elim
 all_goals rintro _ (rfl | rfl)<;>(constructor<;>first | omega | simp_all)
theorem qy {t:P}(ok:Ok t){w:World}{R:Value->World->Prop}(h:∀v w',Ex w w'->Strs w' v (t.parts.map T.text)->(∀g,v.ownBlock=some g->w.heap.size<=g)->R v w'):
  Calls Tryz.prog 117 #[.string (ab t.text)] w (ax [.v] R):=by
 refine qU _ w R ?_;refine aK ok ?_;have hl:=ok.len;have hw:=ok.wf;have two:∀(w1:World) (x y:Tx) (w2:World),Ex w w1->w2=w1.alloc (.cells #[.string (ab x),.string (ab y)] 9)->Strs w2 (.slice (some ⟨w1.heap.size,0,none⟩) 2 2) [x,y]:=by
  rintro w1 x y w2 V rfl
  refine .inr ⟨_,0,2,rfl,by rw [size_alloc];omega,λi z J=>?_⟩;rw [KF];refine aa ?_
  match i,J with
  | 0,J=>simp at J|-;exact J▸rfl
  | 1,J=>simp at J|-;exact J▸rfl
  | i+2,J=>simp at J
 have one:∀(x:Tx) (w2:World),w2=w.alloc (.cells #[.string (ab x)] 9)->Strs w2 (.slice (some ⟨w.heap.size,0,none⟩) 1 1) [x]:=by
  rintro x w2 rfl
  refine .inr ⟨_,0,1,rfl,by rw [size_alloc];omega,λi z J=>?_⟩;rw [KF];refine aa ?_
  match i,J with
  | 0,J=>simp at J|-;exact J▸rfl
  | i+1,J=>simp at J
 cases t with
 | nil=>simpa [T.kind]using h _ _ (Ex.refl w) (.inl ⟨rfl,rfl⟩) (λg H=>by cases H)
 | sum p q=>
  simp only [T.wf,J3]at hw;simp only [T.kind]
  repeat' first | refine aV (by decide) ?_ | refine dc (by decide) ?_ | refine cE (by decide) ?_ | refine dN (by decide) ?_
  have e:=pc p hw.1 (T.sum p q).text 1 (43::(q.text++[41])) rfl ((T.sum p q).text.length+1) (by omega);refine pg _ (by omega) _ 1 (by omega) (by omega:((T.sum p q).text.length:Int) - 1< ((T.sum p q).text.length+1:Nat)) (by omega) ?_;have Z:endI (T.sum p q).text ((T.sum p q).text.length+1) 1=((1+p.text.length:Nat):Int):=e;have e3:(T.sum p q).text.length=p.text.length+q.text.length+3:=by simp only [T.text,J0,J',Kh];omega
  rw [Z];refine⟨λ _=>True,λw1 W=>⟨trivial,by omega,by unfold aj;omega,by unfold aj;omega,by omega,λb w2 hb G=>⟨trivial,?_⟩⟩⟩;subst hb;have x1:List.drop 1 (List.take (1+p.text.length) (T.sum p q).text)=p.text:=by
   show List.drop 1 (List.take (1+p.text.length) (40::(p.text++(43::(q.text++[41])))))=_;rw [Nl,List.take_succ_cons,List.drop_one,List.tail_cons,List.take_left]
  have x2:List.drop (((1+p.text.length:Nat):Int)+1).toNat (List.take (((T.sum p q).text.length:Int) - 1).toNat (T.sum p q).text)=q.text:=by
   have a1:(((1+p.text.length:Nat):Int)+1).toNat=(40::(p.text++[43])).length:=by simp;omega
   have a2:(((T.sum p q).text.length:Int) - 1).toNat=((40::(p.text++[43]))++q.text).length:=by simp;omega
   have a3:(T.sum p q).text=((40::(p.text++[43]))++q.text)++[41]:=by simp [T.text]
   rw [a1,a2,a3,List.take_left,M8]
  rw [J9]at G;have I:w2=w1.alloc (.cells #[.string (ab p.text),.string (ab q.text)] 9):=by
   rw [G];congr 4
   ·exact Lb (λz=>Value.string (ab z)) x1
   ·exact Lb (λz=>[Value.string (ab z)]) x2
  have V:Ex w w1:=W▸Ex.drew w;exact h _ _ (V.trans (I▸Ex.alloc w1 _)) (two w1 _ _ w2 V I) (λg H=>by cases H;exact V.size)
 | par p q=>
  simp only [T.wf,J3]at hw;simp only [T.kind]
  repeat' first | refine aV (by decide) ?_ | refine dc (by decide) ?_ | refine cE (by decide) ?_ | refine dN (by decide) ?_
  have e:=pc p hw.1 (T.par p q).text 1 (38::(q.text++[41])) rfl ((T.par p q).text.length+1) (by omega);refine pg _ (by omega) _ 1 (by omega) (by omega:((T.par p q).text.length:Int) - 1< ((T.par p q).text.length+1:Nat)) (by omega) ?_;have Z:endI (T.par p q).text ((T.par p q).text.length+1) 1=((1+p.text.length:Nat):Int):=e;have e3:(T.par p q).text.length=p.text.length+q.text.length+3:=by simp only [T.text,J0,J',Kh];omega
  rw [Z];refine⟨λ _=>True,λw1 W=>⟨trivial,by omega,by unfold aj;omega,by unfold aj;omega,by omega,λb w2 hb G=>⟨trivial,?_⟩⟩⟩;subst hb;have x1:List.drop 1 (List.take (1+p.text.length) (T.par p q).text)=p.text:=by
   show List.drop 1 (List.take (1+p.text.length) (40::(p.text++(38::(q.text++[41])))))=_;rw [Nl,List.take_succ_cons,List.drop_one,List.tail_cons,List.take_left]
  have x2:List.drop (((1+p.text.length:Nat):Int)+1).toNat (List.take (((T.par p q).text.length:Int) - 1).toNat (T.par p q).text)=q.text:=by
   have a1:(((1+p.text.length:Nat):Int)+1).toNat=(40::(p.text++[38])).length:=by simp;omega
   have a2:(((T.par p q).text.length:Int) - 1).toNat=((40::(p.text++[38]))++q.text).length:=by simp;omega
   have a3:(T.par p q).text=((40::(p.text++[38]))++q.text)++[41]:=by simp [T.text]
   rw [a1,a2,a3,List.take_left,M8]
  rw [J9]at G;have I:w2=w1.alloc (.cells #[.string (ab p.text),.string (ab q.text)] 9):=by
   rw [G];congr 4
   ·exact Lb (λz=>Value.string (ab z)) x1
   ·exact Lb (λz=>[Value.string (ab z)]) x2
  have V:Ex w w1:=W▸Ex.drew w;exact h _ _ (V.trans (I▸Ex.alloc w1 _)) (two w1 _ _ w2 V I) (λg H=>by cases H;exact V.size)
 | snd a b p=>
  simp only [T.kind]
  repeat' first | refine aV (by decide) ?_ | refine dc (by decide) ?_ | refine cE (by decide) ?_ | refine dN (by decide) ?_
  refine cX ok ?_;refine⟨by simp only [T.hd,T.text,J0];omega,λb1 w2 hb G=>?_⟩;subst hb;exact h _ _ (G▸Ex.alloc w _) (one p.text w2 G) (λg H=>by cases H;exact Kb _)
 | rcv a b p=>
  simp only [T.kind]
  repeat' first | refine aV (by decide) ?_ | refine dc (by decide) ?_ | refine cE (by decide) ?_ | refine dN (by decide) ?_
  refine cX ok ?_;refine⟨by simp only [T.hd,T.text,J0];omega,λb1 w2 hb G=>?_⟩;subst hb;exact h _ _ (G▸Ex.alloc w _) (one p.text w2 G) (λg H=>by cases H;exact Kb _)
 | tau p=>
  simp only [T.kind]
  repeat' first | refine aV (by decide) ?_ | refine dc (by decide) ?_ | refine cE (by decide) ?_ | refine dN (by decide) ?_
  refine cX ok ?_;refine⟨by simp only [T.hd,T.text,J0];omega,λb1 w2 hb G=>?_⟩;subst hb;exact h _ _ (G▸Ex.alloc w _) (one p.text w2 G) (λg H=>by cases H;exact Kb _)
 | rep p=>
  simp only [T.kind]
  repeat' first | refine aV (by decide) ?_ | refine dc (by decide) ?_ | refine cE (by decide) ?_ | refine dN (by decide) ?_
  refine cX ok ?_;refine⟨by simp only [T.hd,T.text,J0];omega,λb1 w2 hb G=>?_⟩;subst hb;exact h _ _ (G▸Ex.alloc w _) (one p.text w2 G) (λg H=>by cases H;exact Kb _)
 | res x p=>
  simp only [T.kind]
  repeat' first | refine aV (by decide) ?_ | refine dc (by decide) ?_ | refine cE (by decide) ?_ | refine dN (by decide) ?_
  refine cX ok ?_;refine⟨by simp only [T.hd,T.text,J0];omega,λb1 w2 hb G=>?_⟩;subst hb;exact h _ _ (G▸Ex.alloc w _) (one p.text w2 G) (λg H=>by cases H;exact Kb _)
 | mat a b p=>
  simp only [T.kind]
  repeat' first | refine aV (by decide) ?_ | refine dc (by decide) ?_ | refine cE (by decide) ?_ | refine dN (by decide) ?_
  refine cX ok ?_;refine⟨by simp only [T.hd,T.text,J0];omega,λb1 w2 hb G=>?_⟩;subst hb;exact h _ _ (G▸Ex.alloc w _) (one p.text w2 G) (λg H=>by cases H;exact Kb _)
theorem db {t:P}(ok:Ok t){w:World}{R:Value->World->Prop}(h:∀v w',Ex w w'->Strs w' v (t.parts.map T.text)->R v w'):
  Calls Tryz.prog 117 #[.string (ab t.text)] w (ax [.v] R):=qy ok λv w' z h2 _=>h v w' z h2
def ib (s:Tx):Prop:=s.Pairwise (· < ·)
theorem ib.bound:∀{s:Tx},ib s->s.length<=256
 | [],_=>by simp
 | a::l,h=>by
  have key:∀(l:Tx) (a:UInt8),ib (a::l)->l.length+a.toNat<=255:=by
   intro l
   induction l with
   | nil=>intro a _;have :=a.toNat_lt;simp;omega
   | cons b l G=>
    intro a h;have z:=Mh.1 h;have h2:=G b z.2;have H:=KI.1 (z.1 b (KR ..));simp only [J0];omega
  have :=key l a h;simp only [J0];omega
theorem lB {s:Tx}{i:Nat}(h:i< s.length):bt s i∈s:=by
 simp only [bt,Mx,J2 h,Option.getD_some];exact Kg h
theorem zj {s:Tx}{c:UInt8}(h:c∈s):∃i,i< s.length/\bt s i=c:=by
 obtain⟨i,z,e⟩:=KY.1 h;exact⟨i,z,by simp [bt,z,e]⟩
theorem eH {s:Tx}{c:UInt8}(J:s.length<=1099511627776){w:World}{R:Bool->World->Prop}(h:R (decide (c∈s)) w):Calls Tryz.prog 56 #[.string (ab s),.int .u8 c.toNat] w (ax [.b] R):=by
 refine wM s c w R ?_;refine⟨λi w'=>w=w'/\0<=i/\i<=s.length/\∀j:Nat,j< i->bt s j≠c,λi _=>((s.length:Int) - i).toNat,⟨rfl,by omega,by omega,λj G=>by omega⟩,λi w1 H=>?_⟩;obtain⟨rfl,V,W,h2⟩:=H;refine⟨λhc=>⟨by simp at hc;omega,λhe=>?_,λhe=>?_⟩,λhc=>?_⟩
 ·simp only [J4]at hc he;rw [Lc (he▸lB (by omega))]at h;exact h
 ·simp only [J4,J6]at hc he;refine⟨by unfold aj;omega,⟨rfl,by omega,by omega,λj G=>?_⟩,by dsimp only;omega⟩;rcases LF j i.toNat with z | z
  ·exact h2 j (by omega)
  ·have:j=i.toNat:=by omega
   rw [this];exact he
 ·simp only [J6]at hc;have I:¬c∈s:=λhm=>by
   obtain⟨j,G,e⟩:=zj hm;exact h2 j (by omega) e
  rw [Lj I]at h;exact h
theorem uY {s:Tx}{i:Int}(G:0<=i)(h:i< s.length):List.drop i.toNat (List.take (i+1).toNat s)=[bt s i.toNat]:=by
 obtain⟨n,rfl⟩:∃n:Nat,i=n:=⟨i.toNat,by omega⟩
 have e:((n:Int)+1).toNat=n+1:=by omega
 have z:n< s.length:=by omega
 rw [e,J9,List.drop_take,Nat.add_sub_cancel_left,bJ z];rfl
theorem gi {s:Tx}{i:Int}(G:0<=i)(h:i< s.length):s.take (i+1).toNat=s.take i.toNat++[bt s i.toNat]:=by
 obtain⟨n,rfl⟩:∃n:Nat,i=n:=⟨i.toNat,by omega⟩
 have e:((n:Int)+1).toNat=n+1:=by omega
 have z:n< s.length:=by omega
 rw [e,J9,List.take_add_one]
 congr 1
 simp [bt,J2 z]
theorem xv {s:Tx}{c:UInt8}(H:s.length<=1099511627776){w:World}{R:ay->World->Prop}(h:R (s.filter λd=>decide (d≠c)) w):Calls Tryz.prog 119 #[.string (ab s),.int .u8 c.toNat] w (ax [.s] R):=by
 refine sS s c w R ?_;refine⟨λout i w'=>w=w'/\0<=i/\i<=s.length/\out=(s.take i.toNat).filter λd=>decide (d≠c),λ _ i _=>((s.length:Int) - i).toNat,⟨rfl,by omega,by omega,rfl⟩,λout i w1 G=>?_⟩;obtain⟨rfl,z,I,rfl⟩:=G;refine⟨λhc=>?_,λhc=>?_⟩
 ·simp only [J4]at hc;have J:((s.take i.toNat).filter λd=>decide (d≠c)).length<=s.length:=K5 (Mf ..) (by rw [KP];omega);refine⟨by omega,λhe=>?_,λhe=>?_⟩
  ·simp only [L0,J6]at he;rw [uY z hc];refine⟨by unfold aj;omega,by omega,by simp only [J0,Kh];omega,by unfold aj;omega,⟨rfl,by omega,by omega,?_⟩,by dsimp only;omega⟩;rw [gi z hc,List.filter_append,List.filter_cons,if_pos (by simpa using he),List.filter_nil]
  ·simp only [Bool.not_eq_false',J4]at he;refine⟨by unfold aj;omega,⟨rfl,by omega,by omega,?_⟩,by dsimp only;omega⟩;rw [gi z hc,List.filter_append,List.filter_cons,if_neg (by simpa using he),List.filter_nil,List.append_nil]
 ·simp only [J6]at hc;have:i.toNat=s.length:=by omega
  rw [this,KA];exact h
theorem lx {w1:World}(c:UInt8){w2:World}{b:Nat}(hb:b=w1.heap.size)(h:w2=w1.alloc (.cells #[.int .u8 c.toNat] 5)):
  ∀(j:Nat) (x:UInt8),[c][j]?=some x->w2.cell? ⟨b,0+j,none⟩=some (.int .u8 x.toNat):=by
 intro j x z;subst hb h
 match j,z with
 | 0,z=>simp at z;subst z;exact aa rfl
 | j+1,z=>simp at z
theorem fu {s:Tx}{c:UInt8}(hs:ib s){w:World}{R:ay->World->Prop}(h:∀s' w',Ex w w'->ib s'->(∀x,x∈s'↔x=c\/x∈s)->R s' w'):
  Calls Tryz.prog 121 #[.string (ab s),.int .u8 c.toNat] w (ax [.s] R):=by
 refine uv s c w R ?_;have hl:=hs.bound;refine⟨λi w'=>w=w'/\0<=i/\i<=s.length/\∀j:Nat,j< i->bt s j< c,λi _=>((s.length:Int) - i).toNat,⟨rfl,by omega,by omega,λj hj=>by omega⟩,λi w1 hI=>?_⟩;obtain⟨rfl,h0,h1,h2⟩:=hI;have put:(i=s.length\/c< bt s i.toNat)->∀w1,w1=w.drew->(0<=i/\i<=s.length)/\(0<=i/\i<=s.length)/\∀(b9:Nat) (H:World),b9=w1.heap.size->H=w1.alloc (.cells #[.int .u8 c.toNat] 5)->
   True/\∃(α β γ J:Nat) (G:ay),(Value.slice (some ⟨b9,0,none⟩) 1 1)=Value.slice (some ⟨α,β,none⟩) γ J/\G.length=γ/\(∀(j:Nat) (x:UInt8),G[j]?=some x->H.cell? ⟨α,β+j,none⟩=some (.int .u8 x.toNat))/\True/\
    ((s.take i.toNat).length+G.length<=4611686018427387904)/\((s.take i.toNat++G).length+(s.drop i.toNat).length<=4611686018427387904)/\R ((s.take i.toNat++G)++s.drop i.toNat) H:=by
  rintro Z w1 rfl
  refine⟨by omega,by omega,λb9 H hb hw=>⟨trivial,b9,0,1,1,[c],rfl,rfl,lx c hb hw,trivial,?_,?_,?_⟩⟩
  ·simp only [KP,J0,Kh];omega
  ·simp only [J',KP,LH,J0,Kh];omega
  ·have δ:∀x∈s.take i.toNat,x< c:=by
    intro x z;obtain⟨j,hj,e⟩:=zj z;rw [KP]at hj;have:bt (s.take i.toNat) j=bt s j:=by simp only [bt,Mx];rw [LD (by omega)]
    rw [<-e,this];exact h2 j (by omega)
   have ε:∀x∈s.drop i.toNat,c< x:=by
    rcases Z with Z | Z
    ·intro x z;rw [Z,J9,Mb]at z;cases z
    ·intro x z;have hi:i.toNat< s.length:=by
      rcases LF i.toNat s.length with h | h
      ·exact h
      ·rw [LI h]at z;cases z
     have hd:=bJ hi;have ζ:ib (s.drop i.toNat):=L4 (List.drop_sublist _ _) hs;rw [hd]at z ζ;rcases Ks.1 z with rfl | z
     ·exact Z
     ·exact UInt8.lt_trans Z ((Mh.1 ζ).1 x z)
   refine h _ _ (hw▸(Ex.drew w).trans (Ex.alloc _ _)) ?_ ?_
   ·rw [KN];refine Na.2 ⟨L4 (List.take_sublist _ _) hs,?_,?_⟩
    ·exact Mh.2 ⟨ε,L4 (List.drop_sublist _ _) hs⟩
    ·intro x z y hy;rcases Ks.1 hy with rfl | hy
     ·exact δ x z
     ·exact UInt8.lt_trans (δ x z) (ε y hy)
   ·intro x;have:x∈s↔x∈s.take i.toNat\/x∈s.drop i.toNat:=by rw [<-Ke,Li]
    rw [this];simp only [Ke,Ks,LY,Mq];constructor
    ·rintro((h | h) | h)
     ·exact .inr (.inl h)
     ·exact .inl h
     ·exact .inr (.inr h)
    ·rintro(h | h | h)
     ·exact .inl (.inr h)
     ·exact .inl (.inl h)
     ·exact .inr h
 have same:i< s.length->bt s i.toNat=c->R s w:=λhi he=>h s w (Ex.refl w) hs λx=>⟨.inr,λz=>z.elim (λe=>by rw [e,<-he];exact lB (by omega)) id⟩
 have fin:i< s.length->¬bt s i.toNat< c->¬bt s i.toNat=c->c< bt s i.toNat:=λ _ h1 h2=>by
  rcases UInt8.lt_or_lt_of_ne (Ni h2)with h | h
  ·exact h
  ·exact absurd h h1
 refine⟨λhc=>?_,λhc=>?_⟩
 ·have I:i< s.length:=by simpa using hc
  refine⟨by omega,λhb=>?_,λhb=>?_⟩
  ·simp only [J4]at hb;refine⟨by unfold aj;omega,⟨rfl,by omega,by omega,λj hj=>?_⟩,by dsimp only;omega⟩;rcases LF j i.toNat with η | η
   ·exact h2 j (by omega)
   ·have:j=i.toNat:=by omega
    rw [this];exact hb
  ·simp only [J6]at hb;refine⟨λ _=>⟨by omega,λhe=>same I (by simpa using he),λhe=>?_⟩,λV=>absurd hc (by rw [V];simp)⟩;exact⟨λ _=>True,λw1 W=>⟨trivial,put (.inr (fin I hb (by simpa using he))) w1 W⟩⟩
 ·have I:i=s.length:=by simp at hc;omega
  refine⟨λV=>absurd V (by rw [hc];simp),λ _=>?_⟩;exact⟨λ _=>True,λw1 W=>⟨trivial,put (.inl I) w1 W⟩⟩
end Go.Proofs.YtdecokaadekjnaaGreat
