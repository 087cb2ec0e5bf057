/- Part 1 of a proof of what the last text states; no condition. -/
import Derived.WalkKit
import Derived.KernelRfl
import Derived.MapKept
import Derived.Laws.IdiomCopy
import Derived.Lib.ConvBytes
import Derived.Laws.BytesString
import Derived.Laws.MakeOwn
import Derived.OrdersHeld
import Derived.Test.YtdecokaadekjnaaGreatProg
import Derived.Below
import Derived.Deep.Onto
import Derived.Sort.Walk0
import Derived.Shelf.Small.Strs
import Derived.Sort.OwnSorted
import Derived.Shelf.Sort.Plain
import Derived.Shelf.Slices.In.SortNone
import Derived.Test.YtdecokaadekjnaaGreatRows
import Derived.ProofKit
import Derived.OpenShut
import Derived.ShutString
import Derived.ChangeOld
set_option maxRecDepth 100000
set_option maxHeartbeats 4000000
namespace Go.Proofs.YtdecokaadekjnaaGreat
open Go Go.RowKit
theorem OF:type_of% @List.length_cons:=@List.length_cons
theorem OG:type_of% @World.cell?_of_block:=@World.cell?_of_block
theorem OH:type_of% @List.getElem?_eq_getElem:=@List.getElem?_eq_getElem
theorem OJ:type_of% @Bool.and_eq_true:=@Bool.and_eq_true
theorem OK:type_of% @List.take_succ_eq_append_getElem:=@List.take_succ_eq_append_getElem
theorem OL:type_of% @World.cell?_setCell_other:=@World.cell?_setCell_other
theorem OM:type_of% @List.length_append:=@List.length_append
theorem ON:type_of% @Result.andThen_ok:=@Result.andThen_ok
theorem OO:type_of% @List.mem_singleton:=@List.mem_singleton
theorem OP:type_of% @List.getElem_mem:=@List.getElem_mem
theorem OQ:type_of% @Nat.le_refl:=@Nat.le_refl
theorem OS:type_of% @List.mem_append:=@List.mem_append
theorem OT:type_of% @List.forall_mem_cons:=@List.forall_mem_cons
theorem OU:type_of% @Int.toNat_natCast:=@Int.toNat_natCast
theorem OV:type_of% @decide_eq_false_iff_not:=@decide_eq_false_iff_not
theorem OW:type_of% @decide_eq_true_eq:=@decide_eq_true_eq
theorem OX:type_of% @List.length_nil:=@List.length_nil
theorem OY:type_of% @World.cell?_setCell_same:=@World.cell?_setCell_same
theorem OZ:type_of% @List.mem_cons_of_mem:=@List.mem_cons_of_mem
theorem O0:type_of% @World.frozen?_setCell:=@World.frozen?_setCell
theorem O1:type_of% @if_neg:=@if_neg
theorem O3:type_of% @Sem.run_bind:=@Sem.run_bind
theorem O4:type_of% @List.mem_cons:=@List.mem_cons
theorem O5:type_of% @Sem.run_pure:=@Sem.run_pure
theorem O6:type_of% @UInt8.le_iff_toNat_le:=@UInt8.le_iff_toNat_le
theorem O7:type_of% @of_decide_eq_true:=@of_decide_eq_true
theorem O8:type_of% @List.length_map:=@List.length_map
theorem O9:type_of% @of_decide_eq_false:=@of_decide_eq_false
theorem O':type_of% @Nat.lt_of_lt_of_le:=@Nat.lt_of_lt_of_le
theorem Pa:type_of% @List.take_length:=@List.take_length
theorem Pd:type_of% @World.frozen?_of_block:=@World.frozen?_of_block
theorem Pe:type_of% @UInt8.toNat_inj:=@UInt8.toNat_inj
theorem Pf:type_of% @List.mem_append_right:=@List.mem_append_right
theorem Pg:type_of% @List.eq_nil_of_length_eq_zero:=@List.eq_nil_of_length_eq_zero
theorem Ph:type_of% @Nat.zero_add:=@Nat.zero_add
theorem Pj:type_of% @if_pos:=@if_pos
theorem Pk:type_of% @List.map_cons:=@List.map_cons
theorem Pm:type_of% @List.mem_append_left:=@List.mem_append_left
theorem Pn:type_of% @Nat.mul_one:=@Nat.mul_one
theorem Po:type_of% @List.append_nil:=@List.append_nil
theorem Pp:type_of% @List.nodup_append:=@List.nodup_append
theorem Ps:type_of% @Array.getElem?_eq_some_iff:=@Array.getElem?_eq_some_iff
theorem Pt:type_of% @List.length_take:=@List.length_take
theorem Pu:type_of% @World.size_setCell:=@World.size_setCell
theorem Pv:type_of% @List.append_assoc:=@List.append_assoc
theorem Pw:type_of% @List.mem_map:=@List.mem_map
theorem Px:type_of% @Nat.zero_le:=@Nat.zero_le
theorem Py:type_of% @List.mem_cons_self:=@List.mem_cons_self
theorem Pz:type_of% @Option.some.inj:=@Option.some.inj
theorem PA:type_of% @UInt8.lt_iff_toNat_lt:=@UInt8.lt_iff_toNat_lt
theorem PB:type_of% @List.getElem?_eq_some_iff:=@List.getElem?_eq_some_iff
theorem PC:type_of% @List.cons.injEq:=@List.cons.injEq
theorem PD:type_of% @List.mem_iff_getElem:=@List.mem_iff_getElem
theorem PE:type_of% @List.mem_flatMap:=@List.mem_flatMap
theorem PF:type_of% @List.count_append:=@List.count_append
theorem PG:type_of% @List.nil_append:=@List.nil_append
theorem PH:type_of% @List.map_append:=@List.map_append
theorem PI:type_of% @List.cons_append:=@List.cons_append
theorem PJ:type_of% @Classical.byContradiction:=@Classical.byContradiction
theorem PK:type_of% @List.drop_eq_getElem_cons:=@List.drop_eq_getElem_cons
theorem PL:type_of% @decide_eq_true:=@decide_eq_true
theorem PM:type_of% @Bool.eq_iff_iff:=@Bool.eq_iff_iff
theorem PN:type_of% @Nat.le_trans:=@Nat.le_trans
theorem PO:type_of% @List.nodup_cons:=@List.nodup_cons
theorem PQ:type_of% @List.cons.inj:=@List.cons.inj
theorem PS:type_of% @congrArg:=@congrArg
theorem PT:type_of% @UInt8.toNat_ofNat':=@UInt8.toNat_ofNat'
theorem PU:type_of% @Int.natCast_nonneg:=@Int.natCast_nonneg
theorem PV:type_of% @Below.frozen:=@Below.frozen
theorem PW:type_of% @List.Perm.refl:=@List.Perm.refl
theorem PX:type_of% @decide_eq_false:=@decide_eq_false
theorem PY:type_of% @List.Sublist.refl:=@List.Sublist.refl
theorem PZ:type_of% @List.all_cons:=@List.all_cons
theorem P0:type_of% @List.sum_cons:=@List.sum_cons
theorem P1:type_of% @Array.toList_map:=@Array.toList_map
theorem P2:type_of% @List.flatMap_append:=@List.flatMap_append
theorem P3:type_of% @List.getElem?_cons_zero:=@List.getElem?_cons_zero
theorem P4:type_of% @List.take_append_drop:=@List.take_append_drop
theorem P5:type_of% @List.length_singleton:=@List.length_singleton
theorem P7:type_of% @List.map_congr_left:=@List.map_congr_left
theorem P8:type_of% @List.getElem_append_left:=@List.getElem_append_left
theorem P9:type_of% @List.getD_eq_getElem?_getD:=@List.getD_eq_getElem?_getD
theorem Qa:type_of% @Array.toList_inj:=@Array.toList_inj
theorem Qb:type_of% @Value.int.injEq:=@Value.int.injEq
theorem Qc:type_of% @List.mem_range:=@List.mem_range
theorem Qd:type_of% @Bool.or_eq_false_iff:=@Bool.or_eq_false_iff
theorem Qe:type_of% @Bool.and_self:=@Bool.and_self
theorem Qf:type_of% @Option.some.injEq:=@Option.some.injEq
theorem Qg:type_of% @Bool.or_eq_true:=@Bool.or_eq_true
theorem Qh:type_of% @List.flatMap_cons:=@List.flatMap_cons
theorem Qi:type_of% @List.nodup_nil:=@List.nodup_nil
theorem Qj:type_of% @Array.getElem?_toList:=@Array.getElem?_toList
theorem Qk:type_of% @List.sublist_append_right:=@List.sublist_append_right
theorem Ql:type_of% @Bool.or_assoc:=@Bool.or_assoc
theorem Qm:type_of% @List.getElem?_take_of_lt:=@List.getElem?_take_of_lt
theorem Qn:type_of% @Nat.lt_or_ge:=@Nat.lt_or_ge
theorem Qo:type_of% @List.mem_map_of_mem:=@List.mem_map_of_mem
theorem Qp:type_of% @List.length_set:=@List.length_set
theorem Qq:type_of% @List.length_drop:=@List.length_drop
theorem Qr:type_of% @Below.trans:=@Below.trans
theorem Qs:type_of% @List.drop_eq_nil_of_le:=@List.drop_eq_nil_of_le
theorem Qt:type_of% @List.Sublist.append:=@List.Sublist.append
theorem Qu:type_of% @List.getElem?_map:=@List.getElem?_map
theorem Qv:type_of% @List.map_map:=@List.map_map
theorem Qw:type_of% @if_true:=@if_true
theorem Qx:type_of% @Bool.false_eq_true:=@Bool.false_eq_true
theorem Qy:type_of% @List.filter_append:=@List.filter_append
theorem Qz:type_of% @List.drop_zero:=@List.drop_zero
theorem QA:type_of% @Eq.trans:=@Eq.trans
theorem QB:type_of% @Option.map_some:=@Option.map_some
theorem QC:type_of% @Bool.true_and:=@Bool.true_and
theorem QD:type_of% @MapKept.run_getObj_map:=@MapKept.run_getObj_map
theorem QE:type_of% @List.not_mem_nil:=@List.not_mem_nil
theorem QF:type_of% @List.getElem_append_right:=@List.getElem_append_right
theorem QG:type_of% @Bool.not_eq_true':=@Bool.not_eq_true'
theorem QH:type_of% @Array.getElem?_modify:=@Array.getElem?_modify
theorem QI:type_of% @List.length_filter_le:=@List.length_filter_le
theorem QJ:type_of% @List.Pairwise.sublist:=@List.Pairwise.sublist
theorem QK:type_of% @List.mem_filter:=@List.mem_filter
theorem QL:type_of% @List.map_nil:=@List.map_nil
theorem QM:type_of% @Value.string.injEq:=@Value.string.injEq
theorem QN:type_of% @List.all_eq_true:=@List.all_eq_true
theorem QO:type_of% @List.mem_of_getElem?:=@List.mem_of_getElem?
theorem QP:type_of% @List.any_eq_true:=@List.any_eq_true
theorem QQ:type_of% @List.drop_length:=@List.drop_length
theorem QR:type_of% @List.length_range:=@List.length_range
theorem QS:type_of% @true_and:=@true_and
theorem QT:type_of% @List.getElem_cons_zero:=@List.getElem_cons_zero
theorem QU:type_of% @Nat.min_eq_left:=@Nat.min_eq_left
theorem QV:type_of% @List.perm_append_comm:=@List.perm_append_comm
theorem QW:type_of% @List.eq_nil_iff_forall_not_mem:=@List.eq_nil_iff_forall_not_mem
theorem QX:type_of% @List.pairwise_cons:=@List.pairwise_cons
theorem QY:type_of% @decide_eq_decide:=@decide_eq_decide
theorem QZ:type_of% @List.sublist_append_left:=@List.sublist_append_left
theorem Q1:type_of% @Std.Legacy.Range.forIn_eq_forIn_range':=@Std.Legacy.Range.forIn_eq_forIn_range'
theorem Q3:type_of% @List.nodup_iff_count:=@List.nodup_iff_count
theorem Q4:type_of% @and_assoc:=@and_assoc
theorem Q5:type_of% @List.filter_congr:=@List.filter_congr
theorem Q6:type_of% @or_false:=@or_false
theorem Q7:type_of% @MapKept.run_setObj_map:=@MapKept.run_setObj_map
theorem Q8:type_of% @Bool.or_false:=@Bool.or_false
theorem Q9:type_of% @Nat.add_assoc:=@Nat.add_assoc
theorem Ra:type_of% @Bool.and_true:=@Bool.and_true
theorem Rb:type_of% @beq_iff_eq:=@beq_iff_eq
theorem Rc:type_of% @run_underlying:=@run_underlying
theorem Re:type_of% @Nat.eq_zero_or_pos:=@Nat.eq_zero_or_pos
theorem Rf:type_of% @List.getElem?_take:=@List.getElem?_take
theorem Rg:type_of% @Below.heap_setCell:=@Below.heap_setCell
theorem Ri:type_of% @List.getElem?_toArray:=@List.getElem?_toArray
theorem Rj:type_of% @List.mem_of_find?_eq_some:=@List.mem_of_find?_eq_some
theorem Rk:type_of% @List.getLast?_eq_getElem?:=@List.getLast?_eq_getElem?
theorem Rl:type_of% @List.all_append:=@List.all_append
theorem Rm:type_of% @if_false:=@if_false
theorem Ro:type_of% @Nat.add_zero:=@Nat.add_zero
theorem Rp:type_of% @and_true:=@and_true
theorem Rq:type_of% @Bool.false_or:=@Bool.false_or
theorem Rr:type_of% @List.take_set_of_le:=@List.take_set_of_le
theorem Rt:type_of% @List.length_pos_iff:=@List.length_pos_iff
theorem Ru:type_of% @List.map_eq_nil_iff:=@List.map_eq_nil_iff
theorem Rv:type_of% @List.ext_getElem:=@List.ext_getElem
theorem Rw:type_of% @List.perm_middle:=@List.perm_middle
theorem Rx:type_of% @World.ownsRow.lt:=@World.ownsRow.lt
theorem Ry:type_of% @List.prefix_refl:=@List.prefix_refl
theorem Rz:type_of% @Value.string.inj:=@Value.string.inj
theorem RA:type_of% @List.countP_cons_of_pos:=@List.countP_cons_of_pos
theorem RB:type_of% @List.take_of_length_le:=@List.take_of_length_le
theorem RC:type_of% @Below.mono:=@Below.mono
theorem RD:type_of% @List.all_nil:=@List.all_nil
theorem RE:type_of% @UInt8.toNat_add:=@UInt8.toNat_add
theorem RF:type_of% @or_assoc:=@or_assoc
theorem RG:type_of% @UInt8.lt_irrefl:=@UInt8.lt_irrefl
theorem RH:type_of% @List.range_succ:=@List.range_succ
theorem RL:type_of% @Nat.le_of_ble_eq_true:=@Nat.le_of_ble_eq_true
theorem RM:type_of% @not_true_eq_false:=@not_true_eq_false
theorem RN:type_of% @Array.toList_push:=@Array.toList_push
theorem RO:type_of% @Iff.rfl:=@Iff.rfl
theorem RR:type_of% @not_false_eq_true:=@not_false_eq_true
theorem RT:type_of% @List.drop_drop:=@List.drop_drop
theorem RU:type_of% @List.drop_left:=@List.drop_left
theorem RV:type_of% @List.pairwise_append:=@List.pairwise_append
theorem RX:type_of% @Nat.mul_le_mul:=@Nat.mul_le_mul
theorem RY:type_of% @List.getElem_map:=@List.getElem_map
theorem RZ:type_of% @Nat.mod_eq_of_lt:=@Nat.mod_eq_of_lt
theorem R0:type_of% @MapKept.heap_set:=@MapKept.heap_set
theorem R2:type_of% @Ne.symm:=@Ne.symm
theorem R3:type_of% @List.isEmpty_iff:=@List.isEmpty_iff
theorem R4:type_of% @Nat.add_comm:=@Nat.add_comm
theorem R5:type_of% @List.flatMap_map:=@List.flatMap_map
theorem R6:type_of% @List.filter_eq_self:=@List.filter_eq_self
theorem R7:type_of% @UInt32.toBitVec_inj:=@UInt32.toBitVec_inj
theorem R8:type_of% @Option.map_none:=@Option.map_none
theorem R9:type_of% @List.sum_append:=@List.sum_append
theorem Sa:type_of% @World.ownsRow.mono:=@World.ownsRow.mono
theorem Sb:type_of% @List.prefix_append:=@List.prefix_append
theorem Sc:type_of% @false_or:=@false_or
theorem Sd:type_of% @List.perm_cons:=@List.perm_cons
theorem Se:type_of% @bytesLess_eq:=@bytesLess_eq
theorem Sf:type_of% @Bool.false_and:=@Bool.false_and
theorem Sg:type_of% @Bool.and_assoc:=@Bool.and_assoc
theorem Sh:type_of% @List.count_nil:=@List.count_nil
theorem Si:type_of% @Nat.sub_self:=@Nat.sub_self
theorem Sj:type_of% @Below.refl:=@Below.refl
theorem Sk:type_of% @not_or:=@not_or
abbrev Sl:=World->Prop
abbrev Sm:=Calls Tryz.prog
end Go.Proofs.YtdecokaadekjnaaGreat
namespace Go.Proofs.YtdecokaadekjnaaGreat
open Go Go.RowKit
abbrev aB:=List UInt8
def ai (l:aB):ByteArray:=⟨l.toArray⟩
@[reducible] def nJ {α:Type}:Array α->List α
 | ⟨l⟩=>l
theorem qf {α:Type}(a:Array α):nJ a=a.toList:=rfl
@[reducible] def NV {α β:Type}:α×β->β
 | (_,y)=>y
@[reducible] def KT:Oper->Op
 | ⟨_,op,_,_,_,_⟩=>op
@[reducible] def Fc:Oper->Option Nat
 | ⟨d,_,_,_,_,_⟩=>d
@[reducible] def Om:Oper->Option (Nat×Bool)
 | ⟨_,_,_,_,_,g⟩=>g
@[reducible] def Oo:Oper->Nat
 | ⟨_,_,t,_,_,_⟩=>t
@[reducible] def N9:Call->Callee
 | ⟨c,_,_⟩=>c
@[reducible] def Ln:Call->Array Operand
 | ⟨_,a,_⟩=>a
@[reducible] def NS:Call->Array Nat
 | ⟨_,_,t⟩=>t
@[reducible] def M7:Field->Nat
 | ⟨_,t,_,_,_,_,_⟩=>t
@[reducible] def LL:Field->Nat
 | ⟨_,_,o,_,_,_,_⟩=>o
@[reducible] def mapR {α β:Type} (f:α->β):List α->List β
 | []=>[]
 | x::l=>f x::mapR f l
theorem JX {α β:Type}(f:α->β):∀l:List α,mapR f l=l.map f
 | []=>rfl
 | x::l=>by simp [mapR,JX f l]
@[reducible] def CM {α:Type}:List α->Nat
 | []=>0
 | _::l=>CM l+1
theorem mB {α:Type}:∀l:List α,CM l=l.length
 | []=>rfl
 | _::l=>by simp [CM,mB l]
@[reducible] def Hk {α:Type}:List α->Nat->Bool
 | [],0=>true
 | _::l,n+1=>Hk l n
 | [],_+1=>false
 | _::_,0=>false
theorem Bk {α:Type}:∀{l:List α} {n:Nat},Hk l n=true->l.length=n
 | [],0,_=>rfl
 | _::l,n+1,h=>by rw [OF,Bk (l:=l) h]
 | [],_+1,h=>by cases h
 | _::_,0,h=>by cases h
@[reducible] def nt {α:Type}:List α->Nat->Option α
 | [],_=>none
 | x::_,0=>some x
 | _::l,n+1=>nt l n
theorem yU {α:Type}:∀(l:List α) (n:Nat),nt l n=l[n]?
 | [],_=>rfl
 | _::_,0=>rfl
 | _::l,n+1=>by simp [nt,yU l n]
theorem eK {α:Type}(a:Array α)(n:Nat):nt a.toList n=a[n]?:=by rw [yU,Qj]
@[reducible] def AH {α:Type}:List α->List α->List α
 | [],m=>m
 | x::l,m=>x::AH l m
theorem iJ {α:Type}:∀l m:List α,AH l m=l++m
 | [],_=>rfl
 | x::l,m=>by simp [AH,iJ l m]
@[reducible] def hasR:List Nat->Nat->Bool
 | [],_=>false
 | x::l,n=>match Nat.beq x n with
  | true=>true
  | false=>hasR l n
theorem sG:∀(l:List Nat) (n:Nat),hasR l n=l.contains n
 | [],_=>rfl
 | x::l,n=>by
  have h:(Nat.beq x n)=(n==x):=by
   rw [PM,Nat.beq_eq,Rb];exact eq_comm
  rw [hasR,List.contains_cons,<-h,sG l n];cases Nat.beq x n<;>rfl
theorem Hh {l:List Nat}{n:Nat}(h:hasR l n=true):n∈l:=by rw [sG]at h;simpa using h
@[reducible] def setR {α:Type}:List α->Nat->α->Option (List α)
 | [],_,_=>none
 | _::l,0,y=>some (y::l)
 | x::l,n+1,y=>match setR l n y with
  | some r=>some (x::r)
  | none=>none
theorem yS {α:Type}{y:α}:∀{l r:List α} {n:Nat},setR l n y=some r->n< l.length/\r=l.set n y
 | [],_,_,h=>by cases h
 | _::l,_,0,h=>by cases h;exact⟨by simp,rfl⟩
 | x::l,_,n+1,h=>by
  simp only [setR]at h;split at h
  ·rename_i r hr;cases h;obtain⟨G,h2⟩:=yS hr;exact⟨by simpa using G,by rw [h2];rfl⟩
  ·cases h
@[reducible] def Ch {α:Type}:List α->Nat->List α->Option (List α)
 | l,0,[]=>some l
 | [],0,_::_=>none
 | _::l,0,y::G=>match Ch l 0 G with
  | some r=>some (y::r)
  | none=>none
 | [],_+1,_=>none
 | x::l,n+1,G=>match Ch l n G with
  | some r=>some (x::r)
  | none=>none
theorem zh {α:Type}:∀{l r:List α} {n:Nat} {G:List α},Ch l n G=some r->n+G.length<=l.length/\r=l.take n++G++l.drop (n+G.length)
 | [],_,0,[],h=>by cases h;exact⟨by simp,by simp⟩
 | _::_,_,0,[],h=>by cases h;exact⟨by simp,by simp⟩
 | [],_,0,_::_,h=>by cases h
 | _::l,_,0,y::G,h=>by
  simp only [Ch]at h;split at h
  ·rename_i r hr;cases h;obtain⟨H,h2⟩:=zh hr;refine⟨by simpa using H,?_⟩;rw [h2];simp
  ·cases h
 | [],_,_+1,_,h=>by cases h
 | x::l,_,n+1,G,h=>by
  simp only [Ch]at h;split at h
  ·rename_i r hr;cases h;obtain⟨H,h2⟩:=zh hr;refine⟨by rw [OF];omega,?_⟩;rw [h2,show n+1+G.length=n+G.length+1 by omega];simp
  ·cases h
@[reducible] def J7 {α:Type}:Nat->List α->List α
 | 0,_=>[]
 | n+1,l=>AH l (J7 n l)
theorem DZ {α:Type}:∀(n:Nat) (l:List α),J7 n l=(List.replicate n l).flatten
 | 0,_=>rfl
 | n+1,l=>by simp [J7,iJ,DZ n l,List.replicate_succ]
theorem kP {a b:Nat}(h:Nat.beq a b=true):a=b:=Nat.eq_of_beq_eq_true h
@[reducible] def Ie {α:Type} (f:α->Bool):List α->Bool
 | []=>true
 | x::l=>match f x with
  | true=>Ie f l
  | false=>false
theorem EB {α:Type}(f:α->Bool):∀l:List α,Ie f l=l.all f
 | []=>rfl
 | x::l=>by
  rw [Ie,PZ,EB f l];cases f x<;>rfl
@[reducible] def nN {α:Type}:List (Nat×α)->Nat->Option α
 | [],_=>none
 | (t,x)::l,n=>match Nat.beq t n with
  | true=>some x
  | false=>nN l n
theorem qt {α:Type}:∀{l:List (Nat×α)} {n:Nat} {x:α},nN l n=some x->(n,x)∈l
 | [],n,x,h=>by cases h
 | (t,y)::l,n,x,h=>by
  simp only [nN]at h;split at h
  ·rename_i heq;have :=Nat.eq_of_beq_eq_true heq;subst this;cases h;exact Py
  ·exact OZ _ (qt h)
def bt (l:List UInt8)(i:Nat):UInt8:=l.getD i 0
inductive SV where
 | v (x:Value) | i (n:Int) | c (x:UInt8) | w (x:UInt32) | s (l:aB) | b (x:Bool) | tt | ff | un
 | a (blk off:Nat) | r (n:Int)
 | tup (xs:List SV)
 | ag (xs:List SV)
 | agl (cs:List Value)
mutual
@[reducible] def SV.val:SV->Value
 | .v x=>x | .i n=> .int .i64 n | .c x=> .int .u8 x.toNat | .w x=> .int .u32 x.toNat | .s l=> .string (ai l) | .b x=> .bool x
 | .tt=> .bool true | .ff=> .bool false | .un=>undef | .a blk off=> .pointer (some ⟨blk,off,none⟩)
 | .r n=> .int .i32 n
 | .tup xs=> .tuple (SV.aQ xs).toArray
 | .ag xs=> .agg (SV.aQ xs).toArray
 | .agl cs=> .agg cs.toArray
@[reducible] def SV.aQ:List SV->List Value
 | []=>[]
 | x::xs=>x.val::SV.aQ xs
end
inductive Kd where
 | i | c | w | s | b | v
 deriving DecidableEq
abbrev Kd.T:Kd->Type
 | .i=>Int | .c=>UInt8 | .w=>UInt32 | .s=>aB | .b=>Bool | .v=>Value
@[reducible] def Kd.sv:(k:Kd)->k.T->SV
 | .i=>SV.i | .c=>SV.c | .w=>SV.w | .s=>SV.s | .b=>SV.b | .v=>SV.v
@[reducible] def Kd.un:(k:Kd)->SV->Option k.T
 | .i,.i n=>some n
 | .c,.c x=>some x
 | .w,.w x=>some x
 | .s,.s l=>some l
 | .b,.b x=>some x
 | .b,.tt=>some true
 | .b,.ff=>some false
 | .v,.v x=>some x
 | .v,.a blk off=>some (.pointer (some ⟨blk,off,none⟩))
 | .v,.ag xs=>some (.agg (SV.aQ xs).toArray)
 | .v,.agl cs=>some (.agg cs.toArray)
 | _,_=>none
theorem Kd.Ca {k:Kd}{x:SV}{t:k.T}(h:k.un x=some t):x.val=(k.sv t).val:=by
 cases k<;>cases x<;>simp [Kd.un]at h<;>(try subst h)<;>rfl
abbrev Cur:List Kd->Type
 | []=>Sl
 | k::L=>k.T->Cur L
def optK {α:Type}:Option α->(α->Prop)->Prop
 | some x,k=>k x
 | none,_=>False
theorem bZ {α:Type}{x:Option α}{k:α->Prop}(h:optK x k):∃y,x=some y/\k y:=by
 cases x with
 | none=>exact h.elim
 | some y=>exact⟨y,rfl,h⟩
def optN {α:Type}:Option α->(α->Nat)->Nat
 | some x,k=>k x
 | none,_=>0
def Cur.app:(L:List Kd)->Cur L->List SV->Sl
 | [],R,[],w=>R w
 | k::L,R,x::xs,w=>optK (k.un x) λt=>Cur.app L (R t) xs w
 | _,_,_,_=>False
def Cur.mk:(L:List Kd)->(List SV->Sl)->Cur L
 | [],K=>K []
 | k::L,K=>λt=>Cur.mk L (λxs=>K (k.sv t::xs))
def AllT:(L:List Kd)->(List SV->Prop)->Prop
 | [],K=>K []
 | k::L,K=>∀t:k.T,AllT L (λxs=>K (k.sv t::xs))
@[reducible] def valOf:List SV->Value
 | [x]=>x.val
 | xs=> .tuple (SV.aQ xs).toArray
def lS:(L:List Kd)->Cur L->List SV->Ending->Sl
 | [],R,acc,e,w=>e= .returned (valOf acc)/\R w
 | k::L,R,acc,e,w=>∃t:k.T,lS L (R t) (acc++[k.sv t]) e w
def an (L:List Kd)(R:Cur L):Ending->Sl:=lS L R []
theorem lS.get:∀(L:List Kd) (R:Cur L) (acc:List SV) (e:Ending) (w:World),lS L R acc e w->
  ∃xs:List SV,e= .returned (valOf (acc++xs))/\Cur.app L R xs w/\xs.length=L.length
 | [],R,acc,e,w,h=>⟨[],by simpa using h.1,h.2,rfl⟩
 | k::L,R,acc,e,w,⟨t,h⟩=>by
  obtain⟨xs,G,h2,H⟩:=lS.get L (R t) _ e w h;refine⟨k.sv t::xs,by simpa using G,?_,by simp [H]⟩;have:k.un (k.sv t)=some t:=by cases k<;>rfl
  rw [Cur.app,this];exact h2
theorem Cur.CL:∀(L:List Kd) (K:List SV->Sl) (xs:List SV) (w:World),Cur.app L (Cur.mk L K) xs w->
  ∃G:List SV,SV.aQ G=SV.aQ xs/\K G w
 | [],K,[],w,h=>⟨[],rfl,h⟩
 | [],K,_::_,w,h=>h.elim
 | k::L,K,[],w,h=>h.elim
 | k::L,K,x::xs,w,h=>by
  rw [Cur.app]at h;obtain⟨t,H,h⟩:=bZ h;obtain⟨G,J,h2⟩:=Cur.CL L _ xs w h;exact⟨k.sv t::G,by simp [SV.aQ,J,Kd.Ca H],h2⟩
theorem an.mono {L:List Kd}{R G:Cur L}(h:∀xs w,Cur.app L R xs w->Cur.app L G xs w){e:Ending}{w:World}(hr:an L R e w):an L G e w:=by
 unfold an at*;revert h hr;generalize ([]:List SV)=acc
 induction L generalizing acc with
 | nil=>exact λh hr=>⟨hr.1,h [] w hr.2⟩
 | cons k L J=>
  rintro h ⟨t,V⟩
  refine⟨t,J _ (λxs w W=>?_) V⟩;have H:k.un (k.sv t)=some t:=by cases k<;>rfl
  have :=h (k.sv t::xs) w (by rw [Cur.app,H];exact W);rw [Cur.app,H]at this;exact this
abbrev Env:=List (Nat×SV)
@[reducible] def look:Env->Nat->Option SV
 | [],_=>none
 | (t,x)::e,n=>match Nat.beq t n with
  | true=>some x
  | false=>look e n
@[reducible] def NF:Int->Option UInt8
 | .ofNat n=>match Nat.ble 256 n with
  | true=>none
  | false=>some (UInt8.ofNat n)
 | .negSucc _=>none
@[reducible] def Jf:Int->Option UInt32
 | .ofNat n=>match Nat.ble 4294967296 n with
  | true=>none
  | false=>some (UInt32.ofNat n)
 | .negSucc _=>none
theorem Hg {n:Int}{c:UInt8}(h:NF n=some c):n=c.toNat:=by
 cases n with
 | negSucc m=>cases h
 | ofNat m=>
  simp only [NF]at h;split at h
  ·cases h
  ·rename_i hb;cases h;have:¬256<=m:=λG=>by rw [Nat.ble_eq_true_of_le G]at hb;cases hb
   simp only [PT,Nat.reducePow,Int.ofNat_eq_natCast];omega
theorem Ep {n:Int}{c:UInt32}(h:Jf n=some c):n=c.toNat:=by
 cases n with
 | negSucc m=>cases h
 | ofNat m=>
  simp only [Jf]at h;split at h
  ·cases h
  ·rename_i hb;cases h;have:¬4294967296<=m:=λG=>by rw [Nat.ble_eq_true_of_le G]at hb;cases hb
   simp only [UInt32.toNat_ofNat',Nat.reducePow,Int.ofNat_eq_natCast];omega
def aE (N:Nat)(e:Env)(a:Act):Prop:=a.tmps.size=N/\∀t x,look e t=some x->a.tmps.getD t undef=x.val
theorem aE.put {N:Nat}{e:Env}{a:Act}(h:aE N e a){d:Nat}(hd:d< N){x:SV}{v:Value}(V:v=x.val):aE N ((d,x)::e) (a.put (some d) v):=by
 subst V;refine⟨by simp [Act.put,h.1],λt y J=>?_⟩;simp only [look]at J;split at J
 ·rename_i heq;have :=Nat.eq_of_beq_eq_true heq;subst this;cases J;simp [Act.put,Array.getD,h.1,hd]
 ·rename_i G;have H:d≠t:=λe=>by rw [e,Nat.beq_refl]at G;cases G
  rw [<-h.2 t y J];show(a.tmps.setIfInBounds d x.val).getD t undef=_;simp only [Array.getD,Array.size_setIfInBounds];split
  ·exact Array.getElem_setIfInBounds_ne _ H
  ·rfl
@[reducible] def ev (e:Env):Operand->Option SV
 | .tmp t=>look e t
 | .const (.int .i64 n)=>some (.i n)
 | .const (.int .u8 n)=>match NF n with
  | some c=>some (.c c)
  | none=>some (.v (.int .u8 n))
 | .const (.int .u32 n)=>match Jf n with
  | some c=>some (.w c)
  | none=>some (.v (.int .u32 n))
 | .const (.string s)=>some (.s s.data.toList)
 | .const (.bool true)=>some .tt
 | .const (.bool false)=>some .ff
 | .const v=>some (.v v)
 | .global g=>some (.a g 0)
 | .func f=>some (.v (.func (.func f) #[] #[]))
theorem aH {N:Nat}{e:Env}{a:Act}(h:aE N e a){x:Operand}{y:SV}(G:ev e x=some y):a.eval x=y.val:=by
 cases x with
 | tmp t=>exact h.2 t y G
 | global g=>simp [ev]at G;subst G;rfl
 | func f=>simp [ev]at G;subst G;rfl
 | const v=>
  unfold ev at G;split at G<;>(try (rename_i heq;cases heq))
  all_goals first
   | (cases G;rfl)
   | skip
  ·split at G<;>cases G
   ·rename_i H;exact PS (Value.int .u8) (Hg H)
   ·rfl
  ·split at G<;>cases G
   ·rename_i H;exact PS (Value.int .u32) (Ep H)
   ·rfl
attribute [go_sem] Cur Kd.sv Kd.T SV.val SV.aQ valOf
structure eC where
 P:Program
 und:Nat->Option TypeDesc
 und_ok:∀t d,und t=some d->P.underlying t=some d
 inf:Nat->Option (Value×Nat×Nat)
 inf_ok:∀t z s b,inf t=some (z,s,b)->∃i,P.info? t=some i/\i.zero=some z/\i.size=s/\i.bytes=b
 fn:Nat->Bool
 fn_ok:∀f,fn f=true->∃g,P.funcs[f]?=some g/\g.body.isNone=false/\(g.name== "runtime.NumGoroutine")=false
 mixed:P.follows .mixedOrders=true
@[reducible] def eC.U (T:eC) (t:Nat):Option TypeDesc:=match T with
 | ⟨_,u,_,_,_,_,_,_⟩=>u t
@[reducible] def eC.I (T:eC) (t:Nat):Option (Value×Nat×Nat):=match T with
 | ⟨_,_,_,i,_,_,_,_⟩=>i t
@[reducible] def eC.F (T:eC) (f:Nat):Bool:=match T with
 | ⟨_,_,_,_,_,b,_,_⟩=>b f
@[reducible] def BJ (d:Option TypeDesc):Kd:=match d with
 | some (.int .i64)=> .i | some (.int .u8)=> .c | some (.int .u32)=> .w | some .string=> .s | some .bool=> .b | _=> .v
@[reducible] def HJ (T:eC) (t:Nat):List Kd:=match T.U t with
 | some (.tuple ts)=>mapR (λu=>BJ (T.U u)) (nJ ts)
 | d=>[BJ d]
abbrev a7 (n:Int):Prop:= -9223372036854775808<=n/\n<=9223372036854775807
theorem kA {n:Int}(h:a7 n):IntKind.i64.wrap n=n:=by
 exact IntWalk.i64_in n h
def uL (x:UInt32)(n:Nat):UInt32:=UInt32.ofNat (x.toNat* 2^(min n 32))
@[reducible] def binT (op:BinOp) (x y:SV):Option SV:=match op,x,y with
 | .eql,.i a,.i b=>some (.b (decide (a=b)))
 | .neq,.i a,.i b=>some (.b (!decide (a=b)))
 | .lss,.i a,.i b=>some (.b (decide (a< b)))
 | .leq,.i a,.i b=>some (.b (decide (a<=b)))
 | .gtr,.i a,.i b=>some (.b (decide (b< a)))
 | .geq,.i a,.i b=>some (.b (decide (b<=a)))
 | .eql,.c a,.c b=>some (.b (decide (a=b)))
 | .neq,.c a,.c b=>some (.b (!decide (a=b)))
 | .lss,.c a,.c b=>some (.b (decide (a< b)))
 | .leq,.c a,.c b=>some (.b (decide (a<=b)))
 | .gtr,.c a,.c b=>some (.b (decide (b< a)))
 | .geq,.c a,.c b=>some (.b (decide (b<=a)))
 | .add,.c a,.c b=>some (.c (a+b))
 | .sub,.c a,.c b=>some (.c (a - b))
 | .eql,.s a,.s b=>some (.b (decide (a=b)))
 | .neq,.s a,.s b=>some (.b (!decide (a=b)))
 | .lss,.s a,.s b=>some (.b (Op.bytesLess a b))
 | .leq,.s a,.s b=>some (.b (Op.bytesLess a b||decide (a=b)))
 | .gtr,.s a,.s b=>some (.b (!(Op.bytesLess a b||decide (a=b))))
 | .geq,.s a,.s b=>some (.b (!Op.bytesLess a b))
 | .and,.w a,.w b=>some (.w (a &&& b))
 | .or,.w a,.w b=>some (.w (a ||| b))
 | .xor,.w a,.w b=>some (.w (a^^^b))
 | .andNot,.w a,.w b=>some (.w (a &&& ~~~b))
 | .eql,.w a,.w b=>some (.b (decide (a=b)))
 | .neq,.w a,.w b=>some (.b (!decide (a=b)))
 | .shl,.w a,.c n=>some (.w (uL a n.toNat))
 | _,_,_=>none
@[reducible] def binP (op:BinOp) (x y:SV):Option (Prop×SV):=match op,x,y with
 | .add,.i a,.i b=>some (a7 (a+b),.i (a+b))
 | .sub,.i a,.i b=>some (a7 (a - b),.i (a - b))
 | .mul,.i a,.i b=>some (a7 (a* b),.i (a* b))
 | .quo,.i a,.i b=>some (0<=a/\0< b/\a7 a,.i (a / b))
 | .rem,.i a,.i b=>some (0<=a/\0< b,.i (a % b))
 | .add,.s a,.s b=>some (a.length+b.length<=4611686018427387904,.s (a++b))
 | .shl,.w a,.i n=>some (0<=n,.w (uL a n.toNat))
 | _,_,_=>none
theorem fN (l:aB):(ai l).size=l.length:=by simp [ai,ByteArray.size]
theorem oF (l:aB):(ai l).toList=l:=by
 have:∀n i acc,l.length - i=n->ByteArray.toList.loop (ai l) i acc=acc.reverse++l.drop i:=by
  intro n
  induction n with
  | zero=>
   intro i acc h;unfold ByteArray.toList.loop;rw [O1 (by rw [fN];omega),Qs (by omega)];simp
  | succ n G=>
   intro i acc h;have hi:i< l.length:=by omega
   unfold ByteArray.toList.loop;rw [Pj (by rw [fN];exact hi),G _ _ (by omega),PK hi];have:(ai l).get! i=l[i]:=by simp [ai,ByteArray.get!,hi]
   simp [this]
 simpa [ByteArray.toList]using this _ 0 [] rfl
theorem Cm (a b:aB):ai a++ai b=ai (a++b):=by
 apply ByteArray.ext;simp [ai]
theorem eH {a b:aB}(h:ai a=ai b):a=b:=by simpa [ai]using h
theorem BO (l:aB)(i j:Nat):(ai l).extract i j=ai ((l.take j).drop i):=by
 apply ByteArray.ext;simp [ai,ByteArray.data_extract,List.drop_take]
theorem Mn (s:ByteArray):s=ai s.data.toList:=by cases s;simp [ai]
theorem jP {α:Type}[BEq α][LawfulBEq α][DecidableEq α](a b:α):(a==b)=decide (a=b):=by
 rw [PM];simp
theorem N1 (a b:UInt8):((a.toNat:Int)==(b.toNat:Int))=decide (a=b):=by
 rw [PM];simp only [Rb,OW];constructor
 ·intro h;exact Pe.1 (by omega)
 ·rintro rfl;rfl
theorem Jh (a b:UInt32):((a.toNat:Int)==(b.toNat:Int))=decide (a=b):=by
 rw [PM];simp only [Rb,OW];constructor
 ·intro h;exact UInt32.toNat_inj.1 (by omega)
 ·rintro rfl;rfl
theorem wrap_u8 (n:Int):IntKind.u8.wrap n=n % 256:=by simp [IntKind.wrap,IntKind.bits,IntKind.signed]
theorem wrap_u32 (n:Int):IntKind.u32.wrap n=n % 4294967296:=by simp [IntKind.wrap,IntKind.bits,IntKind.signed]
theorem Mc (a:UInt32):BitVec.ofInt IntKind.u32.bits (a.toNat:Int)=a.toBitVec:=by
 apply BitVec.eq_of_toNat_eq;have :=a.toNat_lt;simp [IntKind.bits]
theorem eqGuard_plain {P:Program}{w:World}{op:BinOp}{t:TypeId}{x y:Operand}{a b:Value}
  (h:(match a,b with | .nilIface,.nilIface=>false | .agg _,.agg _=>false | _,_=>true)=true):(eqGuard op t x y a b).run P w= .ok () w:=by
 unfold eqGuard;cases a<;>cases b<;>simp at h<;>cases op<;>rfl
theorem EJ {T:eC}{o:Oper}{op:BinOp}{t J:Nat}{G H:Operand}{ρ:Operand->Value}{v:Value}{w:World}(V:o.op= .binOp op t G H J)
  (W:(eqGuard op t G H (ρ G) (ρ H)).run T.P w= .ok () w) (h:(binOp op t (ρ G) (ρ H)).run T.P w= .ok v w):(execOp ρ o).run T.P w= .ok (.value v) w:=by
 simp only [execOp,V,O3,W,ON,h,O5]
theorem Ov {a b:UInt8}:((a.toNat:Int)=b.toNat)↔a=b:=⟨λh=>Pe.1 (by omega),λh=>by rw [h]⟩
theorem Oz {a b:UInt8}:((a.toNat:Int)< b.toNat)↔a< b:=by rw [PA];omega
theorem Oy {a b:UInt8}:((a.toNat:Int)<=b.toNat)↔a<=b:=by rw [O6];omega
theorem NJ {a b:UInt32}:((a.toNat:Int)=b.toNat)↔a=b:=⟨λh=>UInt32.toNat_inj.1 (by omega),λh=>by rw [h]⟩
theorem Mj (a b:UInt8):IntKind.u8.wrap ((a.toNat:Int)+b.toNat)=(a+b).toNat:=by rw [wrap_u8,RE];omega
theorem Lw (a b:UInt8):IntKind.u8.wrap ((a.toNat:Int) - b.toNat)=(a - b).toNat:=by
 have :=a.toNat_lt;have :=b.toNat_lt;rw [wrap_u8,UInt8.toNat_sub];omega
theorem yX (x:UInt32):IntKind.u32.wrap (x.toBitVec.toNat:Int)=x.toNat:=by
 have :=x.toNat_lt;rw [wrap_u32];show((x.toNat:Int)) % 4294967296=_;omega
theorem Kk (a b:UInt32):IntKind.u32.wrap ((a.toBitVec &&& b.toBitVec).toNat:Int)=(a &&& b).toNat:=yX (a &&& b)
theorem Lk (a b:UInt32):IntKind.u32.wrap ((a.toBitVec ||| b.toBitVec).toNat:Int)=(a ||| b).toNat:=yX (a ||| b)
theorem JE (a b:UInt32):IntKind.u32.wrap ((a.toBitVec^^^b.toBitVec).toNat:Int)=(a^^^b).toNat:=yX (a^^^b)
theorem JM (a b:UInt32):IntKind.u32.wrap ((a.toBitVec &&& ~~~b.toBitVec).toNat:Int)=(a &&& ~~~b).toNat:=yX (a &&& ~~~b)
theorem DQ (a:UInt32)(n:Nat):IntKind.u32.wrap ((a.toNat:Int)* 2^(min n IntKind.u32.bits))=(uL a n).toNat:=by
 rw [wrap_u32];rw [uL,UInt32.toNat_ofNat'];show((a.toNat:Int)* 2^(min n 32)) % 4294967296=((a.toNat* 2^min n 32 % 4294967296:Nat):Int);rw [Int.natCast_emod,Int.natCast_mul,Int.natCast_pow];rfl
theorem H5 {P:Program}{op:BinOp}{t:Nat}{x y z:SV}{w:World}(h:binT op x y=some z):(binOp op t x.val y.val).run P w= .ok z.val w:=by
 unfold binT at h;split at h<;>cases h<;>simp only [SV.val,binOp,ne_eq,RM,Rm,Op.intCmp,Op.intArith,Op.intBits,Op.stringOp,Op.shift,O5,jP,bne,oF,Bool.not_or,
  Ov,Oz,Oy,NJ,gt_iff_lt,ge_iff_le,Mj,Lw,Mc]
 ·exact PS (λv=>Result.ok (Value.int .u32 v) w) (Kk _ _)
 ·exact PS (λv=>Result.ok (Value.int .u32 v) w) (Lk _ _)
 ·exact PS (λv=>Result.ok (Value.int .u32 v) w) (JE _ _)
 ·exact PS (λv=>Result.ok (Value.int .u32 v) w) (JM _ _)
 rw [O1 (by omega),O5,OU,DQ]
theorem Hx {P:Program}{op:BinOp}{t:Nat}{x y z:SV}{p:Prop}{w:World}(h:binP op x y=some (p,z))(G:p):(binOp op t x.val y.val).run P w= .ok z.val w:=by
 unfold binP at h;split at h<;>cases h<;>simp only [SV.val,binOp,ne_eq,RM,Rm,Op.intArith,Op.intDiv,Op.stringOp,Op.shift,O5]
 ·rw [kA G]
 ·rw [kA G]
 ·rw [kA G]
 ·obtain⟨H,J,h2⟩:=G;rw [O1 (by omega),O5,Int.tdiv_eq_ediv_of_nonneg H,kA];rename_i a b;have V:0<=a / b:=Int.ediv_nonneg H (by omega);have h4:a / b<=a:=Int.ediv_le_self b H;unfold a7 at*;omega
 ·rw [O1 (by omega),O5,Int.tmod_eq_emod_of_nonneg G.1]
 ·rw [O1,O5,Cm];rw [fN,fN];simp only [IntKind.max,IntKind.signed,IntKind.bits];simp;omega
 ·rw [O1 (by omega),O5,DQ]
theorem xm (x:SV)(h:∀y,x≠ .v y)(h':∀y,x≠ .tup y)(h2:∀y,x≠ .ag y)(G:∀y,x≠ .agl y):∀b:Value,(match x.val,b with | .nilIface,.nilIface=>false | .agg _,.agg _=>false | _,_=>true)=true:=by
 intro b;cases x<;>simp only [SV.val]<;>first | rfl | (exact absurd rfl (h _)) | (exact absurd rfl (h' _)) | (exact absurd rfl (h2 _)) | (exact absurd rfl (G _))
attribute [go_sem] HJ BJ
@[reducible] def lX:List SV->SV
 | []=> .tup []
 | [x]=>x
 | x::y::xs=> .tup (x::y::xs)
@[reducible] def evs (e:Env):List Operand->Option (List SV)
 | []=>some []
 | x::xs=>match ev e x,evs e xs with
  | some y,some G=>some (y::G)
  | _,_=>none
@[reducible] def single (d:Option TypeDesc):Bool:=match d with
 | some (.struct _) | some (.array _ _) | some (.tuple _) | some (.named _ _) | none=>false
 | _=>true
@[reducible] def yO (d:Option TypeDesc):Bool:=match d with
 | some (.struct _)=>true
 | some (.array _ _)=>true
 | _=>false
def NG (k:Kd)(K:SV->Prop):Prop:=∃t:k.T,K (k.sv t)
@[reducible] def NA:SV->Option Int
 | .i n=>some n
 | .c x=>some x.toNat
 | _=>none
@[reducible] def Na:SV->Option Bool
 | .b x=>some x
 | .tt=>some true
 | .ff=>some false
 | _=>none
@[reducible] def LF:SV->Option SV
 | .b x=>some (.b (!x))
 | .tt=>some .ff
 | .ff=>some .tt
 | _=>none
@[reducible] def ay:Value->Bool
 | .agg _=>false
 | .tuple _=>false
 | _=>true
def oneOk:SV->Prop->Prop
 | .v x,p=>ay x=true/\p
 | .i _,p=>p
 | .c _,p=>p
 | .w _,p=>p
 | .s _,p=>p
 | .b _,p=>p
 | .tt,p=>p
 | .ff,p=>p
 | .a _ _,p=>p
 | .r _,p=>p
 | .tup _,_=>False
 | .ag _,_=>False
 | .agl _,_=>False
 | .un,_=>False
@[reducible] def cellsOf:SV->List Value
 | .ag xs=>SV.aQ xs
 | .agl cs=>cs
 | y=>[y.val]
def okC:SV->Prop->Prop
 | .v x,p=>ay x=true/\p
 | .i _,p=>p
 | .c _,p=>p
 | .w _,p=>p
 | .s _,p=>p
 | .b _,p=>p
 | .tt,p=>p
 | .ff,p=>p
 | .a _ _,p=>p
 | .r _,p=>p
 | .ag _,p=>p
 | .agl _,p=>p
 | .tup _,_=>False
 | .un,_=>False
def okAllC:List (Nat×SV)->Prop->Prop
 | [],p=>p
 | (_,z)::xs,p=>okC z (okAllC xs p)
@[reducible] def svOf:Value->SV
 | .int .i64 n=> .i n
 | .int .u8 n=>match NF n with
  | some c=> .c c
  | none=> .v (.int .u8 n)
 | .int .u32 n=>match Jf n with
  | some c=> .w c
  | none=> .v (.int .u32 n)
 | .string s=> .s s.data.toList
 | .bool true=> .tt
 | .bool false=> .ff
 | x=> .v x
@[reducible] def cellK (T:eC) (t:Nat):Option (List Kd):=match T.U t with
 | some (.struct fs)=>match Ie (λf=>single (T.U (M7 f))) (nJ fs)with
  | true=>some (mapR (λf=>BJ (T.U (M7 f))) (nJ fs))
  | false=>none
 | some (.array n el)=>match Nat.beq n 2,single (T.U el)with
  | true,true=>some [BJ (T.U el),BJ (T.U el)]
  | _,_=>none
 | _=>none
def CellsAt (w:World)(b:Nat):Nat->List SV->Prop
 | _,[]=>True
 | off,x::xs=>w.cell? ⟨b,off,none⟩=some x.val/\CellsAt w b (off+1) xs
def ExL:(L:List Kd)->(List SV->Prop)->Prop
 | [],K=>K []
 | k::L,K=>∃t:k.T,ExL L λxs=>K (k.sv t::xs)
def xA (w:World)(b off n:Nat)(cs:List Value)(k:SV->Sl):Prop:=
 (cs.length=n/\cs.all ay=true/\∀j,j< n->(∃u,w.cell? ⟨b,off+j,none⟩=some u)/\w.frozen? ⟨b,off+j,none⟩=false)/\∀w',w'=World.setCells w b off cs->k .un w'
@[reducible] def wG:SV->Bool
 | .ag _=>false
 | .agl _=>false
 | .tup _=>false
 | _=>true
@[reducible] def te:Value->List Value
 | .agg cs=>nJ cs
 | v=>[v]
theorem mR (v:Value):te v=v.cells.toList:=by cases v<;>rfl
@[reducible] def is1:Option (Value×Nat×Nat)->Option (Value×Nat)
 | some (z,n,b)=>match Nat.beq n 1 with
  | true=>some (z,b)
  | false=>none
 | none=>none
theorem oz {x:Option (Value×Nat×Nat)}{z:Value}{b:Nat}(h:is1 x=some (z,b)):x=some (z,1,b):=by
 unfold is1 at h;split at h
 ·split at h
  ·rename_i G;cases h;rw [kP G]
  ·cases h
 ·cases h
@[reducible] def arr2:Option TypeDesc->Option Nat
 | some (.array n el)=>match Nat.beq n 2 with
  | true=>some el
  | false=>none
 | _=>none
@[reducible] def buildAg (T:eC) (fs:Array Field):List SV->List (Nat×SV)->Option (List SV)
 | zs,[]=>some zs
 | zs,(i,x)::r=>match nt (nJ fs) i with
  | some fd=>(match is1 (T.I (M7 fd)),wG x with
   | some (_,_),true=>(match setR zs (LL fd) x with
    | some G=>buildAg T fs G r
    | none=>none)
   | _,_=>none)
  | none=>none
@[reducible] def buildRow (sz:Nat):List Value->List (Nat×SV)->Option (List Value)
 | zs,[]=>some zs
 | zs,(i,x)::r=>match Hk (cellsOf x) sz,Ch zs (Nat.mul i sz) (cellsOf x)with
  | true,some G=>buildRow sz G r
  | _,_=>none
@[reducible] def evp (e:Env):List (Nat×Operand)->Option (List (Nat×SV))
 | []=>some []
 | (i,x)::r=>match ev e x,evp e r with
  | some y,some G=>some ((i,y)::G)
  | _,_=>none
def dW (w:World)(x:Value)(m:Nat)(sz:Nat)(news:List Value):Prop:=
 news.length=m* sz/\news.all ay=true/\((x= .slice none m 0/\m=0)\/∃b off c,x= .slice (some ⟨b,off,none⟩) m c/\∀j u,news[j]?=some u->w.cell? ⟨b,off+j,none⟩=some u)
def tY (el sz by_:Nat)(s x:Value)(w:World)(k:SV->Sl):Prop:=
 ∃(base n m:Nat) (xs news:List Value),w.ownsRow base el sz s n xs/\base<=w.heap.size/\dW w x m sz news/\(n+m<=maxLen/\(n+m)* by_<=140737488355328)/\
  ∀v w',w'.ownsRow base el sz v (n+m) (xs++news)->w.grownBy w' s.ownBlock->(∀b,v.ownBlock=some b->s.ownBlock=some b\/w.heap.size<=b)->k (.v v) w'
def nilP:Value->Option Bool
 | .pointer q=>some q.isNone
 | .slice a _ _=>some a.isNone
 | .map r=>some r.isNone
 | _=>none
def dN (l:aB):List Value:=l.map λc=> .int .u8 c.toNat
def y5 (w:World)(el b:Nat)(l:aB):Prop:=
 ∃cur lo hi,w.heap[b]?=some (.cells cur el (lo,hi))/\cur.toList.take l.length=dN l/\l.length<=cur.size/\cur.size<=lo
theorem oneOk.get {z:SV}{p:Prop}(h:oneOk z p):ay z.val=true/\p:=by
 cases z<;>simp only [oneOk]at h<;>first | exact⟨rfl,h⟩ | exact h
@[reducible] def buildAr:List SV->List (Nat×SV)->Option (List SV)
 | zs,[]=>some zs
 | zs,(i,x)::r=>match wG x,setR zs i x with
  | true,some G=>buildAr G r
  | _,_=>none
@[reducible] def evI (e:Env) (x:Operand):Option Int:=match ev e x with
 | some y=>NA y
 | none=>none
theorem Bi {e:Env}{x:Operand}{n:Int}(h:evI e x=some n):∃y,ev e x=some y/\NA y=some n:=by
 unfold evI at h;split at h
 ·exact⟨_,by assumption,h⟩
 ·cases h
@[reducible] def J3 {α β:Type} (f:α->β):Option α->Option β
 | some x=>some (f x)
 | none=>none
@[reducible] def Oc (e:Env):Option Operand->Option SV
 | some x=>ev e x
 | none=>none
@[reducible] def Mw {α:Type}:Option α->Bool
 | some _=>true
 | none=>false
theorem DJ {α:Type}(x:Option α):Mw x=x.isSome:=by cases x<;>rfl
inductive PR where
 | ret (y:SV) | req (p:Prop) (y:SV) | ok (ps:List (Nat×SV)) (y:SV)
 | nilP (q:Bool) (p:Value) | nilS (q:Bool) (p:Value) | arr (p q:Value)
 | sl (sz:Nat) (v:Value) (lo:Int) (hi:Option Int)
 | ptr (v:Value) | ix (sz:Nat) (v:Value) (n:Int) | len (v:Value) | bad
def runPR:PR->(SV->Prop)->Prop
 | .ret y,k=>k y
 | .req p y,k=>p/\k y
 | .ok ps y,k=>okAllC ps (k y)
 | .nilP true p,k=>∃q,p= .pointer q/\k (.b q.isNone)
 | .nilP false p,k=>∃q,p= .pointer q/\k (.b (!q.isNone))
 | .nilS true p,k=>∃q n c,p= .slice q n c/\k (.b q.isNone)
 | .nilS false p,k=>∃q n c,p= .slice q n c/\k (.b (!q.isNone))
 | .arr p q,k=>∃G H J V:UInt32,p= .agg #[.int .u32 G.toNat,.int .u32 H.toNat]/\q= .agg #[.int .u32 J.toNat,.int .u32 V.toNat]/\k (.b (!(decide (G=J)&&decide (H=V))))
 | .sl sz val lo none,k=>∃(a:Option Addr) (len cap:Nat),val= .slice a len cap/\0<=lo/\lo<=(len:Int)/\(len:Int)<=cap/\
   k (.v (.slice (if cap=lo.toNat then a else a.map (·.add (lo.toNat* sz))) ((len:Int).toNat - lo.toNat) (cap - lo.toNat)))
 | .sl sz val lo (some hi),k=>∃(a:Option Addr) (len cap:Nat),val= .slice a len cap/\0<=lo/\lo<=hi/\hi<=cap/\
   k (.v (.slice (if cap=lo.toNat then a else a.map (·.add (lo.toNat* sz))) (hi.toNat - lo.toNat) (cap - lo.toNat)))
 | .ptr val,k=>∃b off,val= .pointer (some ⟨b,off,none⟩)/\k (.a b off)
 | .ix sz val n,k=>∃b off len cap,val= .slice (some ⟨b,off,none⟩) len cap/\0<=n/\n< len/\k (.a b (off+n.toNat* sz))
 | .len val,k=>∃a n cap,val= .slice a n cap/\k (.i n)
 | .bad,_=>False
@[reducible] def slR (T:eC) (el:Nat) (val:Value) (lo:Int) (hi:Option Int):PR:=match T.I el with
 | none=> .bad
 | some (_,sz,_)=> .sl sz val lo hi
@[reducible] def pureR (T:eC) (e:Env):Op->PR
 | .move x=>match ev e x with | some y=> .ret y | none=> .bad
 | .assign x=>match ev e x with | some y=> .ret y | none=> .bad
 | .pick c a b=>match ev e c with
  | some .tt=>(match ev e a with | some y=> .ret y | none=> .bad)
  | some .ff=>(match ev e b with | some y=> .ret y | none=> .bad)
  | _=> .bad
 | .binOp op t x y _=>match ev e x,ev e y with
  | some a,some b=>(match binT op a b with
   | some z=> .ret z
   | none=>match binP op a b with
    | some (p,z)=> .req p z
    | none=>match op,T.U t,Na a,Na b with
     | .eql,some .bool,some p,some q=> .ret (.b (p==q))
     | .neq,some .bool,some p,some q=> .ret (.b (!(p==q)))
     | .eql,some (.pointer _),none,none=>(match a,b with
      | .v p,.v (.pointer none)=> .nilP true p
      | .a _ _,.v (.pointer none)=> .ret .ff
      | _,_=> .bad)
     | .neq,some (.pointer _),none,none=>(match a,b with
      | .v p,.v (.pointer none)=> .nilP false p
      | .a _ _,.v (.pointer none)=> .ret .tt
      | _,_=> .bad)
     | .eql,some (.slice _),none,none=>(match a,b with
      | .v p,.v (.slice none n m)=>(match Nat.beq n 0,Nat.beq m 0 with
       | true,true=> .nilS true p
       | _,_=> .bad)
      | _,_=> .bad)
     | .neq,some (.slice _),none,none=>(match a,b with
      | .v p,.v (.slice none n m)=>(match Nat.beq n 0,Nat.beq m 0 with
       | true,true=> .nilS false p
       | _,_=> .bad)
      | _,_=> .bad)
     | .neq,some (.array n el),none,none=>(match Nat.beq n 2,T.U el,is1 (T.I el),a,b with
      | true,some (.int .u32),some (_,_),.v p,.v q=> .arr p q
      | _,_,_,_,_=> .bad)
     | _,_,_,_=> .bad)
  | _,_=> .bad
 | .unOp op _ x=>match op,ev e x with
  | .not,some y=>(match LF y with | some z=> .ret z | none=> .bad)
  | .neg,some (.i n)=> .req (a7 (0 - n)) (.i (0 - n))
  | _,_=> .bad
 | .convert src dst x=>match T.U src,T.U dst,ev e x with
  | some (.int _),some (.int .i64),some (.c x)=> .ret (.i x.toNat)
  | some (.int _),some (.int .u8),some (.i n)=> .ret (.c (UInt8.ofNat (n % 256).toNat))
  | some (.int _),some (.int .i64),some (.i n)=> .req (a7 n) (.i n)
  | some (.int _),some (.int .i32),some (.c x)=> .ret (.r x.toNat)
  | some (.int _),some (.int .i32),some (.i n)=> .req (0<=n/\n< 2147483648) (.r n)
  | some (.int _),some .string,some (.r n)=> .req (0<=n/\n< 128) (.s [UInt8.ofNat n.toNat])
  | _,_,_=> .bad
 | .index t x ix=>match T.U t,ev e x,ev e ix with
  | some .string,some (.s l),some (.i n)=> .req (0<=n/\n< l.length) (.c (bt l n.toNat))
  | _,_,_=> .bad
 | .slice t x lo hi none=>match T.U t,ev e x,J3 (ev e) lo,J3 (ev e) hi with
  | some .string,some (.s l),none,none=> .ret (.s l)
  | some .string,some (.s l),some (some (.i a)),none=> .req (0<=a/\a<=l.length) (.s (l.drop a.toNat))
  | some .string,some (.s l),none,some (some (.i b))=> .req (0<=b/\b<=l.length) (.s (l.take b.toNat))
  | some .string,some (.s l),some (some (.i a)),some (some (.i b))=> .req (0<=a/\a<=b/\b<=l.length) (.s ((l.take b.toNat).drop a.toNat))
  | some (.slice el),some (.v val),none,none=>slR T el val 0 none
  | some (.slice el),some (.v val),some (some (.i a)),none=>slR T el val a none
  | some (.slice el),some (.v val),none,some (some (.i b))=>slR T el val 0 (some b)
  | some (.slice el),some (.v val),some (some (.i a)),some (some (.i b))=>slR T el val a (some b)
  | _,_,_,_=> .bad
 | .extract x i=>match ev e x with
  | some (.tup xs)=>(match nt xs i with | some y=> .ret y | none=> .bad)
  | _=> .bad
 | .nilCheck x=>match ev e x with
  | some (.a b off)=> .ret (.a b off)
  | some (.v val)=> .ptr val
  | _=> .bad
 | .fieldAddr s x f=>match T.U s,ev e x with
  | some (.struct fs),some (.a b off)=>(match nt (nJ fs) f with
   | some fd=>(match T.I (M7 fd)with
    | some (_,sz,_)=>(match Nat.beq sz 0 with
     | true=> .bad
     | false=> .ret (.a b (off+(LL fd))))
    | none=> .bad)
   | none=> .bad)
  | _,_=> .bad
 | .indexAddr t x ix=>match T.U t,ev e x,evI e ix with
  | some (.slice el),some (.v val),some n=>(match T.I el with
   | some (_,sz,_)=> .ix sz val n
   | none=> .bad)
  | some (.array len el),some (.a b off),some n=>(match T.I el with
   | some (_,sz,_)=> .req (0<=n/\n< len) (.a b (off+n.toNat* sz))
   | none=> .bad)
  | _,_,_=> .bad
 | .build t parts=>match T.U t,T.I t,evp e (nJ parts)with
  | some (.struct fs),some (.agg zs,_,_),some ps=>(match Ie (λf=>Mw (T.I (M7 f))) (nJ fs),buildAg T fs (mapR svOf (nJ zs)) ps with
   | true,some xs=> .ok ps (.ag xs)
   | _,_=> .bad)
  | some (.array _ el),some (.agg zs,_,_),some []=>(match Mw (T.I el)with
   | true=> .ret (.agl (nJ zs))
   | false=> .bad)
  | some (.array _ el),some (.agg zs,_,_),some (p::ps)=>(match is1 (T.I el)with
   | some (_,_)=>(match buildAr (mapR svOf (nJ zs)) (p::ps)with
    | some xs=> .ok (p::ps) (.ag xs)
    | none=> .bad)
   | _=> .bad)
  | _,_,_=> .bad
 | .makeFunc fn first captured=>match fn,evs e (nJ first),evs e (nJ captured)with
  | .func f,some [],some G=> .ret (.v (.func (.func f) #[] (SV.aQ G).toArray))
  | _,_,_=> .bad
 | .call c=>match N9 c with
  | .builtin .len=>(match nt (nJ (NS c)) 0,Oc e (nt (nJ (Ln c)) 0)with
   | some t,some (.s l)=>(match T.U t with | some .string=> .ret (.i l.length) | _=> .bad)
   | some t,some (.v val)=>(match T.U t with | some (.slice _)=> .len val | _=> .bad)
   | _,_=> .bad)
  | .builtin .max=>(match evs e (nJ (Ln c))with
   | some [.i p,.i q]=> .ret (.i (if q> p then q else p))
   | some [.s p,.s q]=> .ret (.s (if(!Op.bytesLess p q)then p else q))
   | _=> .bad)
  | .builtin .min=>(match evs e (nJ (Ln c))with
   | some [.i p,.i q]=> .ret (.i (if q< p then q else p))
   | some [.s p,.s q]=> .ret (.s (if(Op.bytesLess p q||decide (p=q))then p else q))
   | _=> .bad)
  | _=> .bad
 | _=> .bad
def y6 (T:eC)(e:Env)(o:Oper)(k:SV->Prop):Prop:=runPR (pureR T e (KT o)) k
def forceL {α:Type}:List α->(List α->Prop)->Prop
 | [],k=>k []
 | x::l,k=>forceL l λG=>k (x::G)
theorem gN {α:Type}:∀(l:List α) (k:List α->Prop),forceL l k=k l
 | [],_=>rfl
 | x::l,k=>by rw [forceL,gN l]
inductive LR where
 | one (k:Kd) | agg (ks:List Kd) | list (n:Nat) | bad
@[reducible] def loadR (T:eC) (t:Nat):LR:=match single (T.U t)with
 | true=> .one (BJ (T.U t))
 | false=>match yO (T.U t),cellK T t,T.I t with
   | true,some ks,some (_,n,_)=>(match Nat.beq (CM ks) n with
    | true=> .agg ks
    | false=> .bad)
   | true,none,some (_,n,_)=> .list n
   | _,_,_=> .bad
def runLoad:LR->World->Nat->Nat->(SV->Sl)->Prop
 | .one kd,w,b,off,k=>NG kd λy=>w.cell? ⟨b,off,none⟩=some y.val/\k y w
 | .agg ks,w,b,off,k=>ExL ks λxs=>CellsAt w b off xs/\k (.ag xs) w
 | .list n,w,b,off,k=>∃cs:List Value,cs.length=n/\(∀j,j< n->w.cell? ⟨b,off+j,none⟩=cs[j]?)/\k (.agl cs) w
 | .bad,_,_,_,_=>False
def ur (T:eC)(t b off:Nat)(w:World)(k:SV->Sl):Prop:=runLoad (loadR T t) w b off k
inductive SR where
 | one (z:SV) | many (n:Nat) (cs:List Value) | val (n:Nat) (x:Value) | bad
@[reducible] def storeR (T:eC) (t:Nat) (z:SV):SR:=match single (T.U t)with
 | true=>(match is1 (T.I t)with
    | some (_,_)=> .one z
    | _=> .bad)
 | false=>(match T.I t,z with
    | some (_,n,_),.ag xs=> .many n (SV.aQ xs)
    | some (_,n,_),.agl cs=> .many n cs
    | some (_,n,_),.v x=> .val n x
    | _,_=> .bad)
def runStore:SR->World->Nat->Nat->(SV->Sl)->Prop
 | .one z,w,b,off,k=>oneOk z (((∃u,w.cell? ⟨b,off,none⟩=some u)/\w.frozen? ⟨b,off,none⟩=false)/\∀w',w'=w.setCell ⟨b,off,none⟩ z.val->k .un w')
 | .many n cs,w,b,off,k=>xA w b off n cs k
 | .val n x,w,b,off,k=>∃cs:List Value,x= .agg cs.toArray/\xA w b off n cs k
 | .bad,_,_,_,_=>False
def qM (T:eC)(t b off:Nat)(z:SV)(w:World)(k:SV->Sl):Prop:=runStore (storeR T t z) w b off k
noncomputable def cB (es:List MapEntry)(q:Value):Option Value:=open Classical in (es.find? λx=>decide (x.key=q)).map (·.val)
def mg (d:TypeDesc)(q:Value):Prop:=match d with
 | .array n _=>n=2/\∃x y,q= .agg #[.string x,.string y]
 | d=>MapKept.IsKey d q
def IsMap (w:World)(r:Nat)(d:TypeDesc)(m:Value->Option Value):Prop:=
 ∃es clock,w.heap[r]?=some (.map es clock)/\MapKept.Stamped es clock/\(∀x∈es.toList,mg d x.key)/\∀q,m q=cB es.toList q
noncomputable def bR (m:Value->Option Value)(q v:Value):Value->Option Value:=open Classical in λx=>if x=q then some v else m x
structure bw (w w':World)(r:Nat):Prop where
 os:w'.os=w.os
 tape:w'.tape=w.tape
 output:w'.output=w.output
 size:w'.heap.size=w.heap.size
 block:∀b,b≠r->w'.heap[b]?=w.heap[b]?
@[reducible] def keyOk (d:TypeDesc) (y:SV):Bool:=match d,y with
 | .int .i64,.i _=>true
 | .int .u8,.c _=>true
 | .string,.s _=>true
 | _,_=>false
@[reducible] def keyOkT (T:eC) (d:TypeDesc) (y:SV):Bool:=match keyOk d y,d,y with
 | true,_,_=>true
 | false,.array n e,.ag [.s _,.s _]=>(match Nat.beq n 2,T.U e,is1 (T.I e)with
  | true,some .string,some (_,_)=>true
  | _,_,_=>false)
 | _,_,_=>false
def nI (w:World)(r:Nat)(s:Int)(q:Value):Prop:=
 ∃(es:Array MapEntry) (clock j:Nat) (x:MapEntry),w.heap[r]?=some (.map es clock)/\es[j]?=some x/\x.key=q/\s=x.born
@[reducible] def II (d:Option TypeDesc):Bool:=match d with
 | some (.struct _)=>true
 | some (.array _ _)=>true
 | _=>false
@[reducible] def svV:SV->Option Value
 | .v x=>some x
 | _=>none
theorem HD {y:SV}{x:Value}(h:svV y=some x):y= .v x:=by
 unfold svV at h;split at h<;>cases h
 rfl
@[reducible] def Lc (ok:Bool) (y:SV) (g:Bool):SV:=match ok with
 | true=> .tup [y,.b g]
 | false=>y
inductive OR where
 | pure (p:PR)
 | toB (el:Nat) (l:aB) | ofB (v:Value)
 | load (r:LR) (b off:Nat) | loadV (r:LR) (v:Value)
 | store (r:SR) (b off:Nat) | storeV (r:SR) (v:Value)
 | alloc (cs:List Value) (el:Nat) | mmap
 | mksl (el:Nat) (z:Value) (n m:Int)
 | mapup (d:TypeDesc) (v:Value) (q z:SV) | mapent (d:TypeDesc) (v:Value) (q:SV) | entst (v:Value) (s:Int) (y:SV)
 | lookup (d:TypeDesc) (kd:Kd) (z v:Value) (q:SV) (ok:Bool)
 | boxA (el:Nat) (v:Value) | box1 (el:Nat) (v:Value) | boxC (el:Nat) (y:SV)
 | bsl (el len:Nat) (ps:List (Nat×SV)) (cs:List Value)
 | app (el sz by_:Nat) (s x:Value) | clr (z s:Value)
 | dyn (v:Value) (xs:List SV) (L:List Kd) | call (f:Nat) (xs:List SV) (L:List Kd)
 | bad
def runOR (T:eC):OR->World->(SV->Sl)->Prop
 | .pure p,w,k=>runPR p λy=>k y w
 | .toB el l,w,k=>∀(b cap:Nat) (w':World),b=w.heap.size->y5 w' el b l->w.grownBy w' none->k (.v (.slice (some ⟨b,0,none⟩) l.length cap)) w'
 | .ofB val,w,k=>∃(b off n c:Nat) (l:aB),val= .slice (some ⟨b,off,none⟩) n c/\l.length=n/\(∀j x,l[j]?=some x->w.cell? ⟨b,off+j,none⟩=some (.int .u8 x.toNat))/\k (.s l) w
 | .load r b off,w,k=>runLoad r w b off k
 | .loadV r val,w,k=>∃b off,val= .pointer (some ⟨b,off,none⟩)/\runLoad r w b off k
 | .store r b off,w,k=>runStore r w b off k
 | .storeV r val,w,k=>∃b off,val= .pointer (some ⟨b,off,none⟩)/\runStore r w b off k
 | .alloc cs el,w,k=>forceL cs λcs=>∀(b:Nat) (w':World),b=w.heap.size->w'=w.alloc (.cells cs.toArray el)->k (.a b 0) w'
 | .mmap,w,k=>∀(b:Nat) (w':World),b=w.heap.size->w'=w.alloc (.map #[] 0)->k (.v (.map (some b))) w'
 | .mksl el z n m,w,k=>(0<=n/\n=m/\n<=1099511627776)/\∀(b:Nat) (w':World),b=w.heap.size->w'=w.alloc (.cells (List.replicate n.toNat z).toArray el)->k (.v (.slice (some ⟨b,0,none⟩) n.toNat n.toNat)) w'
 | .mapup d val q z,w,k=>∃(r:Nat) (mm:Value->Option Value),val= .map (some r)/\IsMap w r d mm/\∀w',IsMap w' r d (bR mm q.val z.val)->bw w w' r->k .un w'
 | .mapent d val q,w,k=>∃(r:Nat) (mm:Value->Option Value),val= .map (some r)/\IsMap w r d mm/\∀(v0:Value) (s:Int) (w':World),IsMap w' r d (bR mm q.val v0)->bw w w' r->nI w' r s q.val->k (.tup [.v v0,.i s]) w'
 | .entst val s y,w,k=>∃(r:Nat) (d:TypeDesc) (mm:Value->Option Value) (q:Value),val= .map (some r)/\IsMap w r d mm/\nI w r s q/\∀w',IsMap w' r d (bR mm q y.val)->bw w w' r->k .un w'
 | .lookup d kd z val q ok,w,k=>∃(r:Nat) (mm:Value->Option Value),val= .map (some r)/\IsMap w r d mm/\NG kd λy=>∃g:Bool,((g=true/\mm q.val=some y.val)\/(g=false/\mm q.val=none/\y.val=z))/\k (Lc ok y g) w
 | .boxA el val,w,k=>∃cs:List Value,val= .agg cs.toArray/\∀(b:Nat) (w':World),b=w.heap.size->w'=w.alloc (.cells cs.toArray el)->k (.a b 0) w'
 | .box1 el val,w,k=>ay val=true/\∀(b:Nat) (w':World),b=w.heap.size->w'=w.alloc (.cells #[val] el)->k (.a b 0) w'
 | .boxC el y,w,k=>okC y (forceL (cellsOf y) λcs=>∀(b:Nat) (w':World),b=w.heap.size->w'=w.alloc (.cells cs.toArray el)->k (.a b 0) w')
 | .bsl el len ps cs,w,k=>okAllC ps (forceL cs λcs=>∀(b:Nat) (w':World),b=w.heap.size->w'=w.alloc (.cells cs.toArray el)->k (.v (.slice (some ⟨b,0,none⟩) len len)) w')
 | .app el sz by_ s x,w,k=>tY el sz by_ s x w k
 | .clr z s,w,k=>∃(a:Option Addr) (n cap:Nat),s= .slice a n cap/\((n=0/\k (.tup []) w)\/∃b off,a=some ⟨b,off,none⟩/\(∀j,j< n->(∃u,w.cell? ⟨b,off+j,none⟩=some u)/\w.frozen? ⟨b,off+j,none⟩=false)/\∀w',w'=World.setCells w b off (List.replicate n z)->k (.tup []) w')
 | .dyn val xs L,w,k=>forceL (SV.aQ xs) λvs=>forceL L λL=>∃(f:Nat) (ca:List Value),val= .func (.func f) #[] ca.toArray/\T.fn f=true/\Calls T.P f (vs++ca).toArray w (an L (Cur.mk L λG w'=>k (lX G) w'))
 | .call f xs L,w,k=>forceL (SV.aQ xs) λvs=>forceL L λL=>Calls T.P f vs.toArray w (an L (Cur.mk L λG w'=>k (lX G) w'))
 | .bad,_,_=>False
@[reducible] def mapupR (T:eC) (e:Env) (t:Nat) (m x y:Operand):OR:=match T.U t,ev e m,ev e x,ev e y with
  | some (.map kt _),some (.v val),some q,some z=>(match T.U kt with
   | some d=>(match keyOkT T d q with
    | true=> .mapup d val q z
    | false=> .bad)
   | none=> .bad)
  | _,_,_,_=> .bad
@[reducible] def opR (T:eC) (e:Env) (o:Oper):OR:=
 match (KT o)with
 | .convert src dst x=>match T.U src,T.U dst,ev e x with
  | some .string,some (.slice el),some (.s l)=>(match T.U el with
   | some (.int .u8)=> .toB el l
   | _=> .bad)
  | some (.slice el),some .string,some (.v val)=>(match T.U el with
   | some (.int .u8)=> .ofB val
   | _=> .bad)
  | _,_,_=> .pure (pureR T e (KT o))
 | .load t x=>match ev e x with
  | some (.a b off)=> .load (loadR T t) b off
  | some (.v val)=> .loadV (loadR T t) val
  | _=> .bad
 | .store t x y=>match ev e x,ev e y with
  | some (.a b off),some z=> .store (storeR T t z) b off
  | some (.v val),some z=> .storeV (storeR T t z) val
  | _,_=> .bad
 | .alloc el=>match T.I el with
  | some (z,_,_)=> .alloc (te z) el
  | none=> .bad
 | .makeMap _ none=> .mmap
 | .makeSlice t l c=>match T.U t,ev e l,ev e c with
  | some (.slice el),some (.i n),some (.i m)=>(match is1 (T.I el)with
   | some (z,by_)=>(match ay z,Nat.ble by_ 256 with
    | true,true=> .mksl el z n m
    | _,_=> .bad)
   | _=> .bad)
  | _,_,_=> .bad
 | .mapUpdate t m x y=>mapupR T e t m x y
 | .insert t m x y=>mapupR T e t m x y
 | .mapEntry t m x=>match T.U t,ev e m,ev e x with
  | some (.map kt G),some (.v val),some q=>(match T.U kt,T.I G with
   | some d,some _=>(match keyOkT T d q with
    | true=> .mapent d val q
    | false=> .bad)
   | _,_=> .bad)
  | _,_,_=> .bad
 | .entryStore _ m s y=>match ev e m,ev e s,ev e y with
  | some (.v val),some (.i s),some y=> .entst val s y
  | _,_,_=> .bad
 | .lookup t m x ok=>match T.U t,ev e m,ev e x with
  | some (.map kt G),some (.v val),some q=>(match T.U kt,T.I G with
   | some d,some (z,_,_)=>(match keyOkT T d q with
    | true=> .lookup d (BJ (T.U G)) z val q ok
    | false=> .bad)
   | _,_=> .bad)
  | _,_,_=> .bad
 | .box el x=>match ev e x with
  | some y=>(match svV y,II (T.U el)with
   | some val,true=> .boxA el val
   | some val,false=> .box1 el val
   | none,_=> .boxC el y)
  | none=> .bad
 | .buildSlice t len parts=>match T.U t,evp e (nJ parts)with
  | some (.slice el),some ps=>(match T.I el with
   | some (z,sz,_)=>(match Nat.beq (CM (te z)) sz,Nat.ble 1 sz,Nat.ble (Nat.mul len sz) 16777216,buildRow sz (J7 len (te z)) ps with
     | true,true,true,some cs=> .bsl el len ps cs
     | _,_,_,_=> .bad)
   | none=> .bad)
  | _,_=> .bad
 | .call c=>match N9 c with
  | .builtin .append=>(match (nJ (NS c)),evs e (nJ (Ln c))with
   | [t,H],some [.v s,.v x]=>(match Nat.beq t H,T.U t with
     | true,some (.slice el)=>(match T.I el with
      | some (z,sz,by_)=>(match Nat.beq (CM (te z)) sz,Nat.ble 1 sz with
       | true,true=> .app el sz by_ s x
       | _,_=> .bad)
      | none=> .bad)
     | _,_=> .bad)
   | _,_=> .bad)
  | .builtin .clear=>(match (nJ (NS c)),evs e (nJ (Ln c))with
   | [t],some [.v s]=>(match T.U t with
    | some (.slice el)=>(match is1 (T.I el)with
     | some (z,_)=>(match ay z with
      | true=> .clr z s
      | false=> .bad)
     | _=> .bad)
    | _=> .bad)
   | _,_=> .bad)
  | .value (.tmp t)=>(match look e t,evs e (nJ (Ln c))with
   | some (.v val),some xs=> .dyn val xs (HJ T (Oo o))
   | _,_=> .bad)
  | .value (.func f)=>(match T.F f,evs e (nJ (Ln c))with
    | true,some xs=> .call f xs (HJ T (Oo o))
    | _,_=> .bad)
  | _=> .pure (pureR T e (KT o))
 | _=> .pure (pureR T e (KT o))
def zS (T:eC)(e:Env)(o:Oper)(w:World)(k:SV->Sl):Prop:=runOR T (opR T e o) w k
attribute [go_sem] LL lX CellsAt xA Option.getD_some Option.getD_none Lc
section
variable {T:eC} {N:Nat} {e:Env} {o:Oper} {a:Act} {w:World} {k:SV->Sl}
def cV (P:Program)(o:Oper)(a:Act)(w:World)(k:SV->Sl):Prop:=
 ∀(next:Act->Sl) (Q:Exit->Act->Sl),(∀y w',k y w'->next (a.put o.dst y.val) w')->o.wp P a w next Q
theorem cV.value {P:Program}{v:Value}{y:SV}{w':World}(h:(execOp a.eval o).run P w= .ok (.value v) w')(G:v=y.val)(H:k y w'):cV P o a w k:=by
 intro next Q J;unfold Oper.wp;rw [h,G];exact J _ _ H
theorem cV.skip {P:Program}{w':World}(h:(execOp a.eval o).run P w= .ok .skip w')(G:k .un w'):cV P o a w k:=by
 intro next Q H;unfold Oper.wp;rw [h];exact H _ _ G
theorem im (h:aE N e a):∀{l:List Operand} {xs:List SV},evs e l=some xs->l.map a.eval=SV.aQ xs
 | [],xs,G=>by cases G;rfl
 | x::l,xs,G=>by
  unfold evs at G;split at G
  ·rename_i y J H h2;cases G;simp [SV.aQ,aH h H,im h h2]
  ·cases G
theorem kf:∀{xs G:List SV},SV.aQ G=SV.aQ xs->valOf xs=(lX G).val
 | [],[],_=>rfl
 | [],_::_,h=>by simp [SV.aQ]at h
 | _::_,[],h=>by simp [SV.aQ]at h
 | [x],[y],h=>by simp [SV.aQ]at h;simp [valOf,lX,h]
 | [x],_::_::_,h=>by simp [SV.aQ]at h
 | _::_::_,[y],h=>by simp [SV.aQ]at h
 | x::H::xs,y::J::G,h=>by simp only [valOf,lX,SV.val];rw [h]
theorem Fi {f:Nat}{c:Call}{xs:List SV}{L:List Kd}(V:aE N e a)(ho:o.op= .call c)(hc:c.callee= .value (.func f))(hf:T.fn f=true)(hx:evs e c.args.toList=some xs)
  (h:Calls T.P f (SV.aQ xs).toArray w (an L (Cur.mk L λZ w'=>k (lX Z) w'))):cV T.P o a w k:=by
 intro next Q hn;obtain⟨g,hg,hb,W⟩:=T.fn_ok f hf;have G:c.args.map a.eval=(SV.aQ xs).toArray:=by
  apply Qa.1;rw [P1,im V hx]
 have H:(execOp a.eval o).run T.P w= .ok (.enter f (SV.aQ xs).toArray) w:=by
  simp only [execOp,ho,resolve,hc,Act.eval,G,Deferred.ofValue,O3,O5,ON,invoke,callFunc,run_program,hg,hb,W];simp
 unfold Oper.wp;rw [H,Oper.upon_enter];refine Calls.mono h λe' w' hr=>?_
 obtain⟨Z,rfl,J,_⟩:=lS.get _ _ _ _ _ hr;obtain⟨zs,hz,hk⟩:=Cur.CL _ _ _ _ J;have :=hn _ _ hk;simpa [kf hz]using this
end
section
variable {T:eC} {N:Nat} {e:Env} {o:Oper} {a:Act} {w:World} {k:SV->Sl}
theorem bF {T:eC}{t:Nat}{d:TypeDesc}(h:T.und t=some d)(w:World):(underlying t).run T.P w= .ok d w:=Rc (T.und_ok _ _ h) w
theorem bL {T:eC}{t:Nat}{z:Value}{s b:Nat}(h:T.inf t=some (z,s,b))(w:World):
  (sizeOf t).run T.P w= .ok s w/\(zeroValue t).run T.P w= .ok z w:=by
 obtain⟨i,hi,G,H,hb⟩:=T.inf_ok _ _ _ _ h;constructor
 ·simp [sizeOf,typeInfo,hi,H]
 ·simp [zeroValue,typeInfo,hi,G]
theorem pw {t:Nat}(h:single (T.und t)=true)(w:World):(isAgg t).run T.P w= .ok false w:=by
 cases hu:T.und t with
 | none=>rw [hu]at h;cases h
 | some d=>
  unfold isAgg;rw [O3,bF hu,ON];rw [hu]at h;cases d<;>first | (cases h;done) | simp
def cE (P:Program)(o:Oper)(a:Act)(k:SV->Prop):Prop:=∃y,k y/\∀w,(execOp a.eval o).run P w= .ok (.value y.val) w
theorem cE.mk {P:Program}{k:SV->Prop}(y:SV)(G:k y)(h:∀w,(execOp a.eval o).run P w= .ok (.value y.val) w):cE P o a k:=⟨y,G,h⟩
theorem xh {k:SV->Prop}{x:Operand}(H:aE N e a)(G:o.op= .move x\/o.op= .assign x){y:SV}(J:ev e x=some y)(h:k y):cE T.P o a k:=by
 refine cE.mk y h λw=>?_
 rw [<-aH H J];rcases G with G | G<;>simp [execOp,G]
theorem xp {k:SV->Prop}{c x y:Operand}{b:Bool}{z:SV}(G:aE N e a)(H:o.op= .pick c x y)(hc:a.eval c= .bool b)
  (J:ev e (if b then x else y)=some z) (h:k z):cE T.P o a k:=by
 refine cE.mk z h λw=>?_
 rw [<-aH G J];simp only [execOp,H,hc,asBool,O3,O5,ON];cases b<;>simp
theorem dK {k:SV->Prop}{op:BinOp}{t V:Nat}{x y:Operand}{p q z:SV}(G:aE N e a)(W:o.op= .binOp op t x y V)(J:ev e x=some p)(Z:ev e y=some q)
  (H:∀b:Value,(match p.val,b with | .nilIface,.nilIface=>false | .agg _,.agg _=>false | _,_=>true)=true)
  (hr:∀w,(binOp op t p.val q.val).run T.P w= .ok z.val w) (h:k z):cE T.P o a k:=by
 refine cE.mk z h λw=>EJ W (eqGuard_plain ?_) ?_
 ·rw [aH G J];exact H _
 ·rw [aH G J,aH G Z];exact hr w
theorem CZ {op:BinOp}{p q z:SV}(h:binT op p q=some z):∀b:Value,(match p.val,b with | .nilIface,.nilIface=>false | .agg _,.agg _=>false | _,_=>true)=true:=by
 refine xm p ?_ ?_ ?_ ?_<;>rintro y rfl<;>(unfold binT at h;split at h<;>simp_all)
theorem Dt {op:BinOp}{p q z:SV}{P:Prop}(h:binP op p q=some (P,z)):∀b:Value,(match p.val,b with | .nilIface,.nilIface=>false | .agg _,.agg _=>false | _,_=>true)=true:=by
 refine xm p ?_ ?_ ?_ ?_<;>rintro y rfl<;>(unfold binP at h;split at h<;>simp_all)
theorem px {x:SV}{b:Bool}(h:Na x=some b):x.val= .bool b:=by
 cases x<;>simp [Na]at h<;>subst h<;>rfl
theorem DL {x:SV}{n:Int}(h:NA x=some n):∃kd,x.val= .int kd n:=by
 cases x<;>simp [NA]at h<;>subst h<;>exact⟨_,rfl⟩
theorem wA {x:SV}{b:Bool}(h:Na x=some b):∀b:Value,(match x.val,b with | .nilIface,.nilIface=>false | .agg _,.agg _=>false | _,_=>true)=true:=by
 intro c;rw [px h]
theorem ua {t:Nat}(G:T.und t=some .bool)(p q:Bool):(binOp .eql t (.bool p) (.bool q)).run T.P w= .ok (.bool (p==q)) w/\(binOp .neq t (.bool p) (.bool q)).run T.P w= .ok (.bool (!(p==q))) w:=by
 have h:(Op.equal t (.bool p) (.bool q)).run T.P w= .ok (p==q) w:=by
  show(Op.equalIn Op.maxDepth t _ _).run T.P w=_;have:Op.maxDepth=(Op.maxDepth - 1)+1:=rfl;rw [this];simp only [Op.equalIn,O3,bF G,ON,O5]
 constructor<;>simp only [binOp,O3,h,ON,O5]
theorem KG {x y:SV}(h:LF x=some y):(Op.unary .not x.val).run T.P w= .ok y.val w:=by
 cases x<;>simp [LF]at h<;>subst h<;>rfl
theorem Fa {n:Int}(G:0<=n)(h:n< 128):Utf8.encode n=ai [UInt8.ofNat n.toNat]:=by
 obtain⟨m,rfl⟩:=Int.eq_ofNat_of_zero_le G;have hm:m< 128:=by omega
 clear h G;revert m;decide+kernel
theorem Ja {t:Nat}{l:aB}{n:Int}(H:T.und t=some .string)(J:0<=n)(W:n< l.length):(Instr.index t (.string (ai l)) (.int .i64 n)).run T.P w= .ok (.int .u8 (bt l n.toNat).toNat) w:=by
 have G:n.toNat< l.length:=by omega
 have V:(ai l)[n.toNat]?=some (bt l n.toNat):=by
  rw [getElem?_pos (ai l) n.toNat (by rw [fN];exact G)]
  congr 1
  show l.toArray[n.toNat]'_=_;simp only [bt,List.getD,OH G,Option.getD_some];rfl
 simp only [Instr.index,asIntOf,O3,O5,ON,bF H,Pj J,V]
theorem Fw {x:Int}{y:Nat}{code:BoundsCode}(G:0<=x)(H:x<=y):(Instr.sliceBound (.int .i64 x) y code).run T.P w= .ok x.toNat w:=by
 simp only [Instr.sliceBound,asIntOf,O3,O5,ON,Pj (And.intro G H)]
def nV (x:Option Int):Option Value:=x.map (Value.int .i64)
theorem tC {isS:Bool}{len cap:Nat}{lo hi:Option Int}(G:0<=lo.getD 0)(H:lo.getD 0<=hi.getD len)(h2:hi.getD len<=cap):
  (Instr.sliceBounds isS len cap (nV lo) (nV hi) none).run T.P w= .ok ((lo.getD 0).toNat,(hi.getD len).toNat,cap) w:=by
 have hb:∀(x:Int) (y:Nat) (c:BoundsCode),0<=x->x<=y->(Instr.sliceBound (.int .i64 x) y c).run T.P w= .ok x.toNat w:=λx y c a b=>Fw a b
 cases lo<;>cases hi<;>simp only [nV,R8,QB,Option.getD_none,Option.getD_some]at*
 ·simp [Instr.sliceBounds]
 ·simp [Instr.sliceBounds,hb _ _ _ (by omega) h2]
 ·simp [Instr.sliceBounds,hb _ _ _ G H]
 ·rename_i x y;simp [Instr.sliceBounds,hb _ _ _ (by omega:0<=y) h2,hb x y.toNat _ G (by omega)]
theorem yw {t:Nat}{l:aB}{lo hi:Option Int}(G:T.und t=some .string)(H:0<=lo.getD 0)(J:lo.getD 0<=hi.getD l.length)(h2:hi.getD l.length<=l.length):
  (Instr.sliceAt t (.string (ai l)) (nV lo) (nV hi) none).run T.P w= .ok (.string (ai ((l.take (hi.getD l.length).toNat).drop (lo.getD 0).toNat))) w:=by
 simp only [Instr.sliceAt,Instr.slice,O3,bF G,ON,Option.isSome_none,Qx,Rm,fN,tC H J h2,O5,BO]
theorem qZ {t el sz len cap b:Nat}{z:Value}{G:Option Addr}{lo hi:Option Int}(J:T.und t=some (.slice el))(H:T.inf el=some (z,sz,b))(V:0<=lo.getD 0)(W:lo.getD 0<=hi.getD len)(h2:hi.getD len<=cap):
  (Instr.sliceAt t (.slice G len cap) (nV lo) (nV hi) none).run T.P w=
   .ok (.slice (if cap=(lo.getD 0).toNat then G else G.map (·.add ((lo.getD 0).toNat* sz))) ((hi.getD len).toNat - (lo.getD 0).toNat) (cap - (lo.getD 0).toNat)) w:=by
 simp only [Instr.sliceAt,Instr.slice,O3,bF J,ON,tC V W h2,O5,(bL H w).1]
theorem add_plain (b off n:Nat):(⟨b,off,none⟩:Addr).add n=⟨b,off+n,none⟩:=by
 unfold Addr.add;split
 ·rename_i h;subst h;rfl
 ·rfl
theorem Fm {s b off f sz G:Nat}{fs:Array Field}{fd:Field}{z:Value}(H:T.und s=some (.struct fs))(J:fs[f]?=some fd)(hi:T.inf fd.type=some (z,sz,G))(V:sz≠0):
  (Instr.fieldAt s (.pointer (some ⟨b,off,none⟩)) f).run T.P w= .ok (.pointer (some ⟨b,off+fd.offset,none⟩)) w:=by
 simp only [Instr.fieldAt,O3,bF H,ON,J,Instr.sureAddr,O5,fieldPlace,(bL hi w).1,O1 V,add_plain]
theorem F5 {t el sz G b off len cap:Nat}{z:Value}{kd:IntKind}{n:Int}(H:T.und t=some (.slice el))(hi:T.inf el=some (z,sz,G))(J:0<=n)(V:n< len):
  (Instr.indexAt t (.slice (some ⟨b,off,none⟩) len cap) (.int kd n)).run T.P w= .ok (.pointer (some ⟨b,off+n.toNat* sz,none⟩)) w:=by
 simp only [Instr.indexAt,asIntOf,O3,O5,ON,bF H,Pj (And.intro J V),(bL hi w).1,add_plain]
theorem Fq {t el sz G b off len:Nat}{z:Value}{kd:IntKind}{n:Int}(H:T.und t=some (.array len el))(hi:T.inf el=some (z,sz,G))(J:0<=n)(V:n< len):
  (Instr.indexAt t (.pointer (some ⟨b,off,none⟩)) (.int kd n)).run T.P w= .ok (.pointer (some ⟨b,off+n.toNat* sz,none⟩)) w:=by
 simp only [Instr.indexAt,asIntOf,O3,O5,ON,bF H,Instr.sureAddr,Pj (And.intro J V),(bL hi w).1,add_plain]
theorem ql {t b off:Nat}{v:Value}(G:single (T.und t)=true)(hc:w.cell? ⟨b,off,none⟩=some v):
  (Instr.loadAt t (.pointer (some ⟨b,off,none⟩))).run T.P w= .ok v w:=by
 simp only [Instr.loadAt,Instr.sureAddr,O3,O5,ON,loadVar,pw G];simp [load,Sem.run,hc]
theorem p7 {b off:Nat}:∀(n i:Nat) (cs:List Value) (acc:Array Value),cs.length=i+n->(∀j,j< i+n->w.cell? ⟨b,off+j,none⟩=cs[j]?)->acc.toList=cs.take i->
  (loadCellsFrom ⟨b,off,none⟩ i n acc).run T.P w= .ok cs.toArray w
 | 0,i,cs,acc,H,hc,ha=>by
  simp only [loadCellsFrom,O5];rw [RB (by omega)]at ha;rw [<-ha]
 | n+1,i,cs,acc,H,hc,ha=>by
  have hi:i< cs.length:=by omega
  have G:=hc i (by omega);rw [OH hi]at G;have:(load ((⟨b,off,none⟩:Addr).add i)).run T.P w= .ok cs[i] w:=by
   rw [add_plain];simp [load,Sem.run,G]
  simp only [loadCellsFrom,O3,this,ON];exact p7 n (i+1) cs _ (by omega) (λj hj=>hc j (by omega)) (by rw [RN,ha,OK hi])
theorem jI {t:Nat}(h:yO (T.und t)=true)(w:World):(isAgg t).run T.P w= .ok true w:=by
 cases hu:T.und t with
 | none=>rw [hu]at h;cases h
 | some d=>
  unfold isAgg;rw [O3,bF hu,ON];rw [hu]at h;cases d<;>first | (cases h;done) | simp
theorem jH {t b off n G:Nat}{z:Value}{cs:List Value}(H:(isAgg t).run T.P w= .ok true w)(hi:T.inf t=some (z,n,G))(J:cs.length=n)
  (hc:∀j,j< n->w.cell? ⟨b,off+j,none⟩=cs[j]?):(Instr.loadAt t (.pointer (some ⟨b,off,none⟩))).run T.P w= .ok (.agg cs.toArray) w:=by
 simp only [Instr.loadAt,Instr.sureAddr,O3,O5,ON,loadVar,H,(bL hi w).1,Qw,loadCells];rw [p7 n 0 cs #[] (by omega) (λj hj=>hc j (by omega)) (by simp)];rfl
theorem Du {t b off V:Nat}{z u v:Value}(hi:T.inf t=some (z,1,V))(J:ay v=true)(hc:w.cell? ⟨b,off,none⟩=some u)(W:w.frozen? ⟨b,off,none⟩=false):
  (Instr.storeAt t (.pointer (some ⟨b,off,none⟩)) v).run T.P w= .ok () (w.setCell ⟨b,off,none⟩ v):=by
 have G:v.cells=#[v]:=by cases v<;>first | rfl | (cases J;done)
 have H:(store (⟨b,off,none⟩:Addr) v).run T.P w= .ok () (w.setCell ⟨b,off,none⟩ v):=by
  cases v<;>first | (cases J;done) | (simp [store,Sem.run,hc,W])
 simp only [Instr.storeAt,Instr.sureAddr,O3,O5,ON,storeVar,(bL hi w).1,G];simp only [List.size_toArray,OF,OX,ne_eq,RM,Rm,storeCells,O3,add_plain,Ro,H,ON,O5]
theorem E7 {el:Nat}{z:Value}{s b:Nat}(hi:T.inf el=some (z,s,b))(v:Value):
  (Instr.alloc el true (.tuple #[])).run T.P w= .ok (.pointer (some ⟨w.heap.size,0,none⟩)) (w.alloc (.cells z.cells el)):=by
 simp only [Instr.alloc,O3,(bL hi w).2,ON,newVar,newRow,newObj,Sem.run,O5,World.alloc]
theorem zi {el:Nat}(v:Value):(Instr.box el v).run T.P w= .ok (.pointer (some ⟨w.heap.size,0,none⟩)) (w.alloc (.cells v.cells el)):=by
 simp only [Instr.box,O3,newVar,newRow,newObj,Sem.run,ON,O5,World.alloc]
theorem HY {t ty:Nat}{l:aB}(G:T.und t=some .string):(Builtin.len_ #[t] ty #[.string (ai l)]).run T.P w= .ok (.int .i64 l.length) w:=by
 simp [Builtin.len_,bF G,goInt,fN]
theorem HB {t ty el n cap:Nat}{G:Option Addr}(H:T.und t=some (.slice el)):(Builtin.len_ #[t] ty #[.slice G n cap]).run T.P w= .ok (.int .i64 n) w:=by
 simp [Builtin.len_,bF H,goInt]
end
section
variable {T:eC} {N:Nat} {e:Env} {o:Oper} {a:Act} {w:World} {k:SV->Sl}
theorem okC.get {z:SV}{p:Prop}(h:okC z p):z.val.cells=(cellsOf z).toArray/\p:=by
 cases z with
 | v x=>obtain⟨G,h2⟩:=h;refine⟨?_,h2⟩;cases x<;>first | rfl | (cases G;done)
 | tup xs=>exact h.elim
 | un=>exact h.elim
 | _=>exact⟨rfl,h⟩
theorem okAllC.get:∀{ps:List (Nat×SV)} {p:Prop},okAllC ps p->(∀x,x∈ps->x.2.val.cells=(cellsOf x.2).toArray)/\p
 | [],p,h=>⟨λx G=>(by cases G),h⟩
 | q::ps,p,h=>by
  obtain⟨H,h2⟩:=okC.get h;obtain⟨J,h4⟩:=okAllC.get h2;refine⟨λx G=>?_,h4⟩;cases G with
  | head=>exact H
  | tail _ G=>exact J x G
theorem AB (z:Value):(svOf z).val=z:=by
 unfold svOf;split
 ·rfl
 ·split
  ·rename_i G;exact(PS (Value.int .u8) (Hg G)).symm
  ·rfl
 ·split
  ·rename_i G;exact(PS (Value.int .u32) (Ep G)).symm
  ·rfl
 ·rename_i s;show Value.string (ai s.data.toList)=_;rw [<-Mn]
 ·rfl
 ·rfl
 ·rfl
theorem CellsAt.get {b:Nat}:∀{off:Nat} {xs:List SV},CellsAt w b off xs->∀j,j< xs.length->w.cell? ⟨b,off+j,none⟩=(SV.aQ xs)[j]?
 | off,[],h,j,hj=>by simp at hj
 | off,x::xs,h,0,hj=>by simpa [SV.aQ]using h.1
 | off,x::xs,h,j+1,hj=>by
  have :=CellsAt.get h.2 j (by simpa using hj);rw [show off+(j+1)=off+1+j by omega,this];simp [SV.aQ]
theorem gP:∀(l:List SV),(SV.aQ l).length=l.length
 | []=>rfl
 | _::l=>by simp [SV.aQ,gP l]
theorem ExL.get:∀{L:List Kd} {K:List SV->Prop},ExL L K->∃xs,xs.length=L.length/\K xs
 | [],K,h=>⟨[],rfl,h⟩
 | k::L,K,⟨t,h⟩=>by
  obtain⟨xs,G,h2⟩:=ExL.get h;exact⟨k.sv t::xs,by simp [G],h2⟩
theorem rT {b off G:Nat}{v:Value}(h:off≠G):(w.setCell ⟨b,off,none⟩ v).cell? ⟨b,G,none⟩=w.cell? ⟨b,G,none⟩:=by
 unfold World.cell? World.setCell;simp only [QH,Qw];cases h':w.heap[b]? with
 | none=>rfl
 | some H=>
  cases H<;>simp [Array.getElem?_setIfInBounds,h]
theorem um {b off:Nat}{v:Value}(x:Addr):(w.setCell ⟨b,off,none⟩ v).frozen? x=w.frozen? x:=O0 _ _ _ _
theorem nT {b:Nat}:∀(cs:List Value) (off i:Nat) (w:World),cs.all ay=true->(∀j,j< cs.length->(∃u,w.cell? ⟨b,off+i+j,none⟩=some u)/\w.frozen? ⟨b,off+i+j,none⟩=false)->
  (storeCells (⟨b,off,none⟩:Addr) cs i).run T.P w= .ok () (World.setCells w b (off+i) cs)
 | [],off,i,w,_,_=>rfl
 | v::cs,off,i,w,G,hc=>by
  simp only [PZ,OJ]at G;obtain⟨⟨u,hu⟩,J⟩:=hc 0 (by simp);simp only [Ro]at hu J;have H:(store (⟨b,off+i,none⟩:Addr) v).run T.P w= .ok () (w.setCell ⟨b,off+i,none⟩ v):=by
   have :=G.1;cases v<;>first | (cases this;done) | (simp [store,Sem.run,hu,J])
  simp only [storeCells,O3,add_plain,H,ON,World.setCells];rw [nT cs off (i+1) _ G.2 λj hj=>?_]
  ·rfl
  ·have :=hc (j+1) (by simpa using hj);rw [show off+i+(j+1)=off+(i+1)+j by omega]at this;rw [rT (by omega),um];exact this
theorem BF {t b off n H:Nat}{z:Value}{cs:List Value}(hi:T.inf t=some (z,n,H))(G:cs.length=n)(J:cs.all ay=true)
  (hc:∀j,j< n->(∃u,w.cell? ⟨b,off+j,none⟩=some u)/\w.frozen? ⟨b,off+j,none⟩=false):
  (Instr.storeAt t (.pointer (some ⟨b,off,none⟩)) (.agg cs.toArray)).run T.P w= .ok () (World.setCells w b off cs):=by
 have V:(Value.agg cs.toArray).cells=cs.toArray:=rfl;simp only [Instr.storeAt,Instr.sureAddr,O3,O5,ON,storeVar,(bL hi w).1,V];rw [O1 (by simp [G])];exact nT cs off 0 w J (by simpa [G]using hc)
theorem tD {x:SV}:∀(l:List SV) (j:Nat),SV.aQ (l.set j x)=(SV.aQ l).set j x.val
 | [],_=>rfl
 | y::l,0=>rfl
 | y::l,j+1=>by simp [SV.aQ,tD l j]
theorem DU {place:Nat->Option (Nat×Nat)}{fs:Array Field}(hp:∀(i:Nat) (fd:Field) sz z b,fs[i]?=some fd->T.inf fd.type=some (z,sz,b)->place i=some (fd.offset,sz)):
  ∀(ps:List (Nat×SV)) (zs xs:List SV),(∀x,x∈ps->x.2.val.cells=(cellsOf x.2).toArray)->buildAg T fs zs ps=some xs->
   Instr.fill place (SV.aQ zs).toArray (ps.map λp=>(p.1,p.2.val))=some (SV.aQ xs).toArray
 | [],zs,xs,_,h=>by cases h;rfl
 | (i,x)::r,zs,xs,H,h=>by
  unfold buildAg at h;split at h
  ·rename_i fd G;split at h
   ·rename_i z b hi hc;split at h
    ·rename_i α J;rw [qf,eK]at G;obtain⟨V,rfl⟩:=yS J;have J:fd.offset< zs.length:=V;have G:fs[i]?=some fd:=G;have hi:T.inf fd.type=some (z,1,b):=oz hi;have ih:=DU hp r _ xs (λy hy=>H y (OZ _ hy)) h;have Z:x.val.cells=#[x.val]:=by
      rw [H (i,x) (Py)];cases x<;>first | rfl | (cases hc;done)
     simp only [Pk,Instr.fill,hp i fd 1 z b G hi,Z];rw [O1 (by simp [gP];omega)];have W:(#[x.val].zipIdx.foldl (λcs (c,j)=>cs.setIfInBounds (fd.offset+j) c) (SV.aQ zs).toArray)=(SV.aQ (zs.set fd.offset x)).toArray:=by
      rw [tD];simp
     rw [W];exact ih
    ·cases h
   ·cases h
  ·cases h
theorem u0 (G:aE N e a):∀{l:List (Nat×Operand)} {ps:List (Nat×SV)},evp e l=some ps->l.map (λp=>(p.1,a.eval p.2))=ps.map (λp=>(p.1,p.2.val))
 | [],ps,h=>by cases h;rfl
 | (i,x)::l,ps,h=>by
  unfold evp at h;split at h
  ·rename_i y J H h2;cases h;simp only [Pk,aH G H,u0 G h2]
  ·cases h
theorem CN {fs:Array Field}{w:World}(H:∀f∈fs.toList,∃z s b,T.inf f.type=some (z,s,b)):
  ∃pl:Array (Nat×Nat),(fs.mapM (m:=Sem) λf=>do pure (f.offset,<-sizeOf f.type)).run T.P w= .ok pl w/\
   ∀(i:Nat) (fd:Field) sz z b,fs[i]?=some fd->T.inf fd.type=some (z,sz,b)->pl[i]?=some (fd.offset,sz):=by
 obtain⟨l⟩:=fs;have key:∀l:List Field,(∀f∈l,∃z s b,T.inf f.type=some (z,s,b))->∃pl:List (Nat×Nat),(l.mapM (m:=Sem) λf=>do pure (f.offset,<-sizeOf f.type)).run T.P w= .ok pl w/\
   ∀(i:Nat) (fd:Field) sz z b,l[i]?=some fd->T.inf fd.type=some (z,sz,b)->pl[i]?=some (fd.offset,sz):=by
  intro l
  induction l with
  | nil=>intro _;exact⟨[],by simp,λi fd sz z b h=>by simp at h⟩
  | cons f l W=>
   intro h;obtain⟨z,s,b,V⟩:=h f (Py);obtain⟨pl,J,h2⟩:=W λg Z=>h g (OZ _ Z)
   refine⟨(f.offset,s)::pl,?_,?_⟩
   ·simp only [List.mapM_cons,O3,(bL V w).1,ON,O5,J]
   ·intro i fd sz z' b' hi G;cases i with
    | zero=>simp at hi;subst hi;rw [V]at G;cases G;rfl
    | succ i=>simpa using h2 i fd sz z' b' (by simpa using hi) G
 obtain⟨pl,J,h2⟩:=key l H;refine⟨pl.toArray,?_,by simpa using h2⟩;rw [List.mapM_toArray];simp only [Sem.run_map,J];rfl
theorem FU {t s b:Nat}{fs:Array Field}{zs:Array Value}{ps:List (Nat×SV)}{xs:List SV}{parts:Array (Nat×Value)}(Z:T.und t=some (.struct fs))(hi:T.inf t=some (.agg zs,s,b))
  (H:∀f∈fs.toList,∃z s b,T.inf f.type=some (z,s,b)) (G:parts.toList=ps.map λp=>(p.1,p.2.val)) (J:∀x,x∈ps->x.2.val.cells=(cellsOf x.2).toArray) (hb:buildAg T fs (mapR svOf zs.toList) ps=some xs):
  (Instr.build t parts).run T.P w= .ok (.agg (SV.aQ xs).toArray) w:=by
 obtain⟨pl,h1,h2⟩:=CN (w:=w) H;have hz:(SV.aQ (mapR svOf zs.toList)).toArray=zs:=by
  have:∀l:List Value,SV.aQ (mapR svOf l)=l:=by
   intro l;induction l with
   | nil=>rfl
   | cons v l ih=>simp only [mapR,SV.aQ,AB,ih]
  rw [this]
 have W:=DU (place:=(pl[·]?)) h2 ps _ xs J hb;rw [hz]at W;have V:(fs.mapM (m:=Sem) λf=>do let s<-sizeOf f.type;pure (f.offset,s)).run T.P w= .ok pl w:=h1;simp only [Instr.build,O3,(bL hi w).2,ON,bF Z,Value.cells];rw [V];simp only [ON,G,W,O5]
theorem BR:∀(vs:List Value) (k o:Nat) (cur:List Value),o+k+vs.length<=cur.length->
  (vs.zipIdx k).foldl (λcs (p:Value×Nat)=>cs.setIfInBounds (o+p.2) p.1) cur.toArray=(cur.take (o+k)++vs++cur.drop (o+k+vs.length)).toArray
 | [],k,o,cur,h=>by simp
 | v::vs,k,o,cur,h=>by
  simp only [OF]at h;simp only [List.zipIdx_cons,List.foldl_cons,List.setIfInBounds_toArray];rw [BR vs (k+1) o _ (by simp;omega)]
  congr 1
  have G:o+k< cur.length:=by omega
  rw [show o+(k+1)=o+k+1 by omega,OK (by simp;omega),Rr (OQ _),List.drop_set_of_lt (by omega)];simp [show o+k+1+vs.length=o+k+(vs.length+1) by omega]
theorem BZ {sz:Nat}:∀(ps:List (Nat×SV)) (zs cs:List Value),(∀x,x∈ps->x.2.val.cells=(cellsOf x.2).toArray)->buildRow sz zs ps=some cs->
   Instr.fill (λi=>some (i* sz,sz)) zs.toArray (ps.map λp=>(p.1,p.2.val))=some cs.toArray
 | [],zs,cs,_,h=>by cases h;rfl
 | (i,x)::r,zs,cs,H,h=>by
  unfold buildRow at h;split at h
  ·rename_i V W G;have G:Ch zs (i* sz) (cellsOf x)=some V:=G;obtain⟨h3,rfl⟩:=zh G;have hc:(cellsOf x).length=sz:=Bk W;have Z:=BZ r _ cs (λy hy=>H y (OZ _ hy)) h;have J:=H (i,x) (Py);simp only at J;simp only [Pk,Instr.fill,J];rw [O1 (by simp;omega)];rw [<-Z]
   congr 1
   have :=BR (cellsOf x) 0 (i* sz) zs (by omega);simp only [Ro]at this;rw [<-this,<-Array.foldl_toList,Array.toList_zipIdx]
  ·cases h
end
section
variable {T:eC} {N:Nat} {e:Env} {o:Oper} {a:Act} {w:World} {k:SV->Sl}
theorem F9 (z:Array Value)(len sz:Nat)(J:z.size=sz)(Z:0< sz):((Array.range (len* sz)).map (z[· % z.size]!))=(List.replicate len z.toList).flatten.toArray:=by
 apply Qa.1;simp only [P1,Array.toList_range];apply Rv
 ·simp [J]
 ·intro i V h2;simp only [O8,QR]at V;have hm:i % z.size< z.size:=Nat.mod_lt _ (by omega);simp only [RY,List.getElem_range];rw [getElem!_pos z _ hm];have key:∀(len i:Nat) (h:i< len* z.size) (h':i< (List.replicate len z.toList).flatten.length),(List.replicate len z.toList).flatten[i]=z[i % z.size]'(Nat.mod_lt _ (by omega)):=by
   intro len
   induction len with
   | zero=>intro i h;omega
   | succ len W=>
    intro i h h';simp only [List.replicate_succ,List.flatten_cons];rw [List.getElem_append];split
    ·rename_i G;simp only [Array.length_toList]at G;simp only [Array.getElem_toList]
     congr 1
     exact(RZ G).symm
    ·rename_i H;simp only [Array.length_toList]at H;simp only [Array.length_toList];rw [W (i - z.size) (by rw [Nat.add_mul]at h;omega)]
     congr 1
     rw [<-Nat.mod_eq_sub_mod (by omega)]
  exact(key len i (by rw [J];exact V) _).symm
theorem Cb {t el sz len b:Nat}{z:Value}{ps:List (Nat×SV)}{cs:List Value}{parts:Array (Nat×Value)}(Z:T.und t=some (.slice el))(hi:T.inf el=some (z,sz,b))(hz:z.cells.size=sz)(W:0< sz)(hl:len* sz<=16777216)
  (G:parts.toList=ps.map λp=>(p.1,p.2.val)) (H:∀x,x∈ps->x.2.val.cells=(cellsOf x.2).toArray) (hb:buildRow sz (List.replicate len z.cells.toList).flatten ps=some cs):
  (Instr.buildSlice t len parts).run T.P w= .ok (.slice (some ⟨w.heap.size,0,none⟩) len len) (w.alloc (.cells cs.toArray el)):=by
 have J:=BZ ps _ cs H hb;simp only [Instr.buildSlice,O3,bF Z,ON,(bL hi w).1];rw [O1 (by omega)];by_cases V:len* sz=0
 ·have hlen:len=0:=by
   rcases Re len with h | h
   ·exact h
   ·have :=Nat.mul_pos h W;omega
  subst hlen;simp only [Nat.zero_mul,Qw,O5,ON,O3];have:((Array.range 0).map ((#[]:Array Value)[· % (#[]:Array Value).size]!))=#[]:=by simp
  simp only [List.replicate_zero,List.flatten_nil]at J;simp only [this,G,J,O3,newRow,newObj,Sem.run,ON,O5,World.alloc]
 ·simp only [V,Rm,O3,(bL hi w).2,ON,O5];rw [F9 _ _ _ hz W];simp only [G,J,O3,newRow,newObj,Sem.run,ON,O5,World.alloc]
theorem sV {t el:Nat}(G:T.und t=some (.pointer el))(q:Option Addr):
  (binOp .eql t (.pointer q) (.pointer none)).run T.P w= .ok (.bool q.isNone) w/\(binOp .neq t (.pointer q) (.pointer none)).run T.P w= .ok (.bool (!q.isNone)) w:=by
 have h:(Op.equal t (.pointer q) (.pointer none)).run T.P w= .ok q.isNone w:=by
  show(Op.equalIn Op.maxDepth t _ _).run T.P w=_;have:Op.maxDepth=(Op.maxDepth - 1)+1:=rfl;rw [this];cases q<;>simp only [Op.equalIn,O3,bF G,ON,O5]<;>rfl
 constructor<;>simp only [binOp,O3,h,ON,O5]
theorem yd {src dst el:Nat}{l:aB}(G:T.und src=some .string)(hd:T.und dst=some (.slice el))(he:T.und el=some (.int .u8)):
  ∃cap w',(convert src dst (.string (ai l))).run T.P w= .ok (.slice (some ⟨w.heap.size,0,none⟩) l.length cap) w'/\y5 w' el w.heap.size l/\w.grownBy w' none:=by
 have hr:=Go.Lib.run_convert_string_bytes (P:=T.P) w src dst el (ai l) (T.und_ok _ _ G) (T.und_ok _ _ hd) (T.und_ok _ _ he);rw [fN]at hr;refine⟨_,_,hr,⟨_,_,_,Go.Lib.bytesWorld_at_new w el (ai l),?_,?_,OQ _⟩,⟨rfl,rfl,rfl,?_,λj hj _=>Go.Lib.bytesWorld_at_old w el (ai l) j hj⟩⟩
 ·simp [Go.Lib.bytesCells,dN,ai,List.take_append]
 ·simp [Go.Lib.bytesCells,ai,ByteArray.size]
 ·rw [Go.Lib.bytesWorld_size];omega
theorem vf {b off n c:Nat}{l:aB}(V:l.length=n)(hc:∀j x,l[j]?=some x->w.cell? ⟨b,off+j,none⟩=some (.int .u8 x.toNat)):
  (Conv.bytesToString (.slice (some ⟨b,off,none⟩) n c)).run T.P w= .ok (.string (ai l)) w:=by
 have G:(loadCells (⟨b,off,none⟩:Addr) n).run T.P w= .ok (dN l).toArray w:=by
  unfold loadCells;refine p7 n 0 (dN l) #[] (by simp [dN,V]) (λj hj=>?_) (by simp);have J:j< l.length:=by omega
  rw [hc j l[j] (OH J)];simp [dN,J]
 have H:∀(l:aB) (s:ByteArray),(l.map λc=>((c.toNat:Int))).foldl (λr n=>r.push (UInt8.ofNat n.toNat)) s=s++ai l:=by
  intro l
  induction l with
  | nil=>intro s;apply ByteArray.ext;simp [ai]
  | cons x l W=>
   intro s;simp only [Pk,List.foldl_cons];rw [W];apply ByteArray.ext;simp [ai]
 have hm:(dN l)=(l.map λc=>((c.toNat:Int))).map (Value.int .u8):=by simp [dN]
 have :=run_bytesToString (P:=T.P) w ⟨b,off,none⟩ n c (l.map λc=>((c.toNat:Int))) (by rw [G,hm]);rw [this,H]
 congr 2
theorem zQ {l:List Value}(h:l.all ay=true):∀u∈l,u.oneCell'=true:=by
 intro u hu;have :=QN.1 h u hu;cases u<;>first | rfl | (cases this;done)
theorem zg {P:Program}{w:World}(base:Nat)(t ty e:TypeId)(i:TypeInfo)(z:Value)(ht:P.underlying t=some (.slice e))(hi:P.info? e=some i)(hz:i.zero=some z)
  (v:Value) (n:Nat) (xs:List Value) (J:w.ownsRow base e i.size v n xs) (a:Addr) (m c:Nat) (news:List Value) (Z:news.length=m* i.size) (G:∀j u,news[j]?=some u->w.cell? (a.add j)=some u)
  (h1:∀u∈news,u.oneCell'=true) (γ:n+m<=maxLen) (H:(n+m)* i.bytes<=140737488355328) {v':Value} {w':World} (hr:(Builtin.append_ #[t,t] ty #[v,.slice (some a) m c]).run P w= .ok v' w'):
  ∀b,v'.ownBlock=some b->v.ownBlock=some b\/w.heap.size<=b:=by
 have β:n+m<=9223372036854775807:=by simp only [maxLen]at γ;omega
 intro b hb;rcases J.2 with⟨rfl,rfl⟩ | ⟨g,cap,cur,rfl,_,hg,ζ,η,δ,ε⟩
 ·by_cases hm:m=0
  ·subst hm;have hn:news=[]:=Pg (by simpa using Z);subst hn;have W:(Builtin.append_ #[t,t] ty #[.slice none 0 0,.slice (some a) 0 c]).run P w= .ok (.slice none 0 0) w:=by
    simp [Builtin.append_,Rc ht,sizeOf,typeInfo,hi,Builtin.lenOf,Builtin.firstCells,loadCells,loadCellsFrom]
   rw [W]at hr;cases hr;cases hb
  ·have W:=run_append_nil (P:=P) w t ty e i z ht hi hz a m c news Z G (by omega) (by omega) (by simp only [Ph]at H;omega);rw [W]at hr;cases hr;right;simp only [Value.ownBlock,Qf]at hb;omega
 ·by_cases V:n+m<=cap
  ·have α:n* i.size+news.length<=cur.size:=by rw [Z,δ,<-Nat.add_mul];exact Nat.mul_le_mul_right _ V
   have W:=run_append_room (P:=P) w t ty e i ht hi g n cap cur hg a m c news Z G h1 V α;rw [W]at hr;cases hr;left;exact hb
  ·have holds:∀j u,xs[j]?=some u->w.cell? ((⟨g,0,none⟩:Addr).add j)=some u:=J.cells (g:=g) rfl;have W:=run_append_grow (P:=P) w t ty e i z ht hi hz ⟨g,0,none⟩ n cap xs J.1 holds a m c news Z G (by omega) (by omega) (growslice_fits (by omega) H);rw [W]at hr;cases hr;right;simp only [Value.ownBlock,Qf]at hb;omega
theorem Df {t el sz by_:Nat}{z s x:Value}{ty:Nat}(ht:T.und t=some (.slice el))(hi:T.inf el=some (z,sz,by_))(hz:z.cells.size=sz)(h0:0< sz)(h:tY el sz by_ s x w k):
  ∃v w',(Builtin.append_ #[t,t] ty #[s,x]).run T.P w= .ok v w'/\k (.v v) w':=by
 obtain⟨base,n,m,xs,news,G,hb,⟨hl,h1,J⟩,⟨h2,h3⟩,hk⟩:=h;obtain⟨i,H,V,W,Z⟩:=T.inf_ok _ _ _ _ hi;rcases J with⟨rfl,rfl⟩ | ⟨b,off,c,rfl,hc⟩
 ·have hn:news=[]:=Pg (by simpa using hl);subst hn;refine⟨s,w,run_append_owned_none (P:=T.P) (w:=w) base t ty el i sz (T.und_ok _ _ ht) H s n xs G,?_⟩;exact hk s w (by simpa using G) ⟨rfl,rfl,rfl,OQ _,λ _ _ _=>rfl⟩ λb hb=> .inl hb
 ·obtain⟨v,w',hr,ho,hg,_⟩:=run_append_own (P:=T.P) w base t ty el i z sz by_ (T.und_ok _ _ ht) H V W Z hz h0 s n xs G ⟨b,off,none⟩ m c news hl
   (λj u hu=>by rw [add_plain];exact hc j u hu) (zQ h1) h2 h3 hb
  refine⟨v,w',hr,hk v w' ho hg ?_⟩;subst W Z;exact zg base t ty el i z (T.und_ok _ _ ht) H V s n xs G ⟨b,off,none⟩ m c news hl (λj u hu=>by rw [add_plain];exact hc j u hu) (zQ h1) h2 h3 hr
theorem KA {p q:Int}{ts:Array Nat}{ty:Nat}:(Builtin.max_ ts ty #[.int .i64 p,.int .i64 q]).run T.P w= .ok (.int .i64 (if q> p then q else p)) w:=by
 simp [Builtin.max_,Builtin.max2]
theorem Js {p q:Int}{ts:Array Nat}{ty:Nat}:(Builtin.min_ ts ty #[.int .i64 p,.int .i64 q]).run T.P w= .ok (.int .i64 (if q< p then q else p)) w:=by
 simp [Builtin.min_,Builtin.min2]
theorem Gp {p q:aB}{ts:Array Nat}{ty:Nat}:(Builtin.max_ ts ty #[.string (ai p),.string (ai q)]).run T.P w= .ok (.string (ai (if(!Op.bytesLess p q)then p else q))) w:=by
 simp only [Builtin.max_,List.foldlM_cons,List.foldlM_nil,Builtin.max2,Op.stringOp,O3,O5,ON,asBool,oF];split<;>rfl
theorem H9 {p q:aB}{ts:Array Nat}{ty:Nat}:(Builtin.min_ ts ty #[.string (ai p),.string (ai q)]).run T.P w= .ok (.string (ai (if(Op.bytesLess p q||decide (p=q))then p else q))) w:=by
 simp only [Builtin.min_,List.foldlM_cons,List.foldlM_nil,Builtin.min2,Op.stringOp,O3,O5,ON,asBool,oF,jP];split<;>rfl
theorem Hm {t:Nat}{c:Call}{val:Value}{xs:List SV}{L:List Kd}{f:Nat}{ca:List Value}(H:aE N e a)(ho:o.op= .call c)(hc:c.callee= .value (.tmp t))(ht:look e t=some (.v val))(hv:val= .func (.func f) #[] ca.toArray)(hf:T.fn f=true)(hx:evs e c.args.toList=some xs)
  (h:Calls T.P f (SV.aQ xs++ca).toArray w (an L (Cur.mk L λys w'=>k (lX ys) w'))):cV T.P o a w k:=by
 intro next Q hn;obtain⟨g,hg,hb,Z⟩:=T.fn_ok f hf;have G:c.args.map a.eval=(SV.aQ xs).toArray:=by
  apply Qa.1;rw [P1,im H hx]
 have J:a.eval (.tmp t)= .func (.func f) #[] ca.toArray:=by rw [aH H (x:= .tmp t) ht];exact hv
 have V:(execOp a.eval o).run T.P w= .ok (.enter f (SV.aQ xs++ca).toArray) w:=by
  simp only [execOp,ho,resolve,hc,J,G,Deferred.ofValue,O3,O5,ON,invoke,callFunc,run_program,hg,hb,Z];simp
 unfold Oper.wp;rw [V,Oper.upon_enter];refine Calls.mono h λe' w' hr=>?_
 obtain⟨ys,rfl,W,_⟩:=lS.get _ _ _ _ _ hr;obtain⟨zs,hz,hk⟩:=Cur.CL _ _ _ _ W;have :=hn _ _ hk;simpa [kf hz]using this
end
section
variable {T:eC} {N:Nat} {e:Env} {o:Oper} {a:Act} {w:World} {k:SV->Sl}
theorem jc {el i:Nat}{cs:Array Value}{v:Value}(h:single (T.und el)=true)(hc:cs[i]?=some v):(part el cs i).run T.P w= .ok v w:=by
 unfold part;simp only [O3,pw h,ON,hc];simp
theorem xe {t el Z d:Nat}{z G H J V:Value}{b0 b1:Bool}(ht:T.und t=some (.array 2 el))(hi:T.inf el=some (z,1,Z))(W:single (T.und el)=true)
  (h0:(Op.equalIn d el G J).run T.P w= .ok b0 w) (h1:(Op.equalIn d el H V).run T.P w= .ok b1 w):(Op.equalIn (d+1) t (.agg #[G,H]) (.agg #[J,V])).run T.P w= .ok (b0&&b1) w:=by
 have p0:∀(a b:Value),(part el #[a,b] 0).run T.P w= .ok a w:=λa b=>jc W rfl
 have p1:∀(a b:Value),(part el #[a,b] 1).run T.P w= .ok b w:=λa b=>jc W rfl
 cases b0<;>cases b1<;>simp [Op.equalIn,O3,bF ht,(bL hi w).1,ON,Q1,List.range',p0,p1,h0,h1,O5]
theorem FB {t el H d:Nat}{z J V W Z:Value}(ht:T.und t=some (.array 2 el))(hi:T.inf el=some (z,1,H))(he:T.und el=some (.int .u32)):(Op.eqGuardIn (d+2) t (.agg #[J,V]) (.agg #[W,Z])).run T.P w= .ok false w:=by
 have G:single (T.und el)=true:=by rw [he]
 have p0:∀(a b:Value),(part el #[a,b] 0).run T.P w= .ok a w:=λa b=>jc G rfl
 have p1:∀(a b:Value),(part el #[a,b] 1).run T.P w= .ok b w:=λa b=>jc G rfl
 have g:∀x y:Value,(Op.eqGuardIn (d+1) el x y).run T.P w= .ok false w:=λx y=>by
  simp [Op.eqGuardIn,O3,bF he,ON,O5]
 unfold Op.eqGuardIn;simp [O3,bF ht,(bL hi w).1,ON,Q1,List.range',p0,p1,g,O5]
structure mU (T:eC)(kt:Nat)(d:TypeDesc):Prop where
 check:∀(w:World) (q:Value) (e:Bool),mg d q->(Instr.checkKey e 10000 kt q).run T.P w= .ok () w
 find:∀(w:World) (q:Value) (l:List MapEntry),mg d q->(∀x∈l,mg d x.key)->((Instr.findKey kt q l).run T.P w= .ok none w/\∀x∈l,x.key≠q)\/∃j x,(Instr.findKey kt q l).run T.P w= .ok (some (j,x.val)) w/\l[j]?=some x/\x.key=q
 stays:∀(w:World) (q:Value),mg d q->(Instr.keyThatStays q q).run T.P w= .ok q w
theorem od {kt:Nat}{d:TypeDesc}(hd:T.und kt=some d)(H:∀q,mg d q↔MapKept.IsKey d q):mU T kt d:=by
 have G:=T.und_ok _ _ hd;refine⟨λw q e h=>MapKept.run_checkKey G ((H q).1 h) e 9999,λw q l h V=>?_,λw q h=>MapKept.run_keyThatStays ((H q).1 h)⟩;rcases MapKept.findNow_spec ((H q).1 h) l 0 (λx W=>(H _).1 (V x W))with⟨J,h2⟩ | ⟨j,x,J,h2,Z⟩
 ·exact .inl ⟨MapKept.run_findKey G J,h2⟩
 ·exact .inr ⟨j,x,by rw [Ph]at J;exact MapKept.run_findKey G J,h2,Z⟩
theorem zW {kt e W:Nat}{z:Value}(hd:T.und kt=some (.array 2 e))(he:T.und e=some .string)(hi:T.inf e=some (z,1,W)){q:Value}(Z:mg (.array 2 e) q):∀(l:List MapEntry) (i:Nat),(∀x∈l,mg (.array 2 e) x.key)->
  ((Instr.findAsking kt q l i).run T.P w= .ok none w/\∀x∈l,x.key≠q)\/∃j x,(Instr.findAsking kt q l i).run T.P w= .ok (some (i+j,x.val)) w/\l[j]?=some x/\x.key=q
 | [],i,_=> .inl ⟨rfl,by simp⟩
 | x::l,i,h=>by
  obtain⟨_,a,b,rfl⟩:=Z;obtain⟨_,c,d,H⟩:=h x (by simp);have hs:single (T.und e)=true:=by rw [he]
  have es:∀(a b:ByteArray) (n:Nat),(Op.equalIn (n+1) e (.string a) (.string b)).run T.P w= .ok (a==b) w:=λa b n=>by
   simp only [Op.equalIn,O3,bF he,ON,O5]
  have eq:(Op.equal kt (.agg #[.string a,.string b]) x.key).run T.P w= .ok ((a==c)&&(b==d)) w:=by
   rw [H];exact xe hd hi hs (es _ _ _) (es _ _ _)
  cases hb:((a==c)&&(b==d))with
  | true=>
   rw [hb]at eq;simp only [OJ,MapKept.bytes_beq]at hb;exact .inr ⟨0,x,by simp only [Instr.findAsking,O3,eq,ON];rfl,rfl,by rw [H,hb.1,hb.2]⟩
  | false=>
   rw [hb]at eq;have J:x.key≠ .agg #[.string a,.string b]:=λe=>by
    rw [H]at e;simp only [Value.agg.injEq,Array.mk.injEq,PC,QM,Rp]at e;obtain⟨rfl,rfl⟩:=e;have:((c==c)&&(d==d))=true:=by rw [OJ,MapKept.bytes_beq,MapKept.bytes_beq];exact⟨rfl,rfl⟩
    rw [this]at hb;cases hb
   have st:(Instr.findAsking kt (.agg #[.string a,.string b]) (x::l) i).run T.P w=(Instr.findAsking kt (.agg #[.string a,.string b]) l (i+1)).run T.P w:=by
    simp only [Instr.findAsking,O3,eq,ON];rfl
   rcases zW hd he hi ⟨rfl,a,b,rfl⟩ l (i+1) (λy G=>h y (by simp [G]))with⟨V,h2⟩ | ⟨j,y,V,h2,h3⟩
   ·refine .inl ⟨st.trans V,λy G=>?_⟩;rcases O4.1 G with rfl | G
    ·exact J
    ·exact h2 y G
   ·exact .inr ⟨j+1,y,by rw [st,V,show i+1+j=i+(j+1) by omega],by simpa using h2,h3⟩
theorem GO {kt e J:Nat}{z:Value}(hd:T.und kt=some (.array 2 e))(he:T.und e=some .string)(hi:T.inf e=some (z,1,J)):mU T kt (.array 2 e):=by
 have H:single (T.und e)=true:=by rw [he]
 refine⟨λw q em h=>?_,λw q l h V=>?_,λw q h=>?_⟩
 ·obtain⟨_,a,b,rfl⟩:=h;have W:(part e #[.string a,.string b] 0).run T.P w= .ok (.string a) w:=jc H rfl;have Z:(part e #[.string a,.string b] 1).run T.P w= .ok (.string b) w:=jc H rfl;have g:∀a:ByteArray,(Instr.checkKey em 9999 e (.string a)).run T.P w= .ok () w:=λa=>by
   show(Instr.checkKey em (9998+1) e (.string a)).run T.P w=_;unfold Instr.checkKey;simp [O3,bF he,ON]
  show(Instr.checkKey em (9999+1) kt _).run T.P w=_;unfold Instr.checkKey;simp [O3,bF hd,(bL hi w).1,ON,Q1,List.range',W,Z,g,O5]
 ·have fa:(Instr.findKey kt q l).run T.P w=(Instr.findAsking kt q l 0).run T.P w:=by
   unfold Instr.findKey;simp only [O3,bF hd,ON];cases l with
   | nil=>rfl
   | cons x l=>rfl
  rw [fa];rcases zW hd he hi h l 0 V with G | ⟨j,x,G,h2⟩
  ·exact .inl G
  ·exact .inr ⟨j,x,by rw [Ph]at G;exact G,h2⟩
 ·obtain⟨_,a,b,rfl⟩:=h;have:Instr.sameBits 10000 (.agg #[.string a,.string b]) (.agg #[.string a,.string b])=true:=by
   show Instr.sameBits (9999+1) _ _=true;simp [Instr.sameBits,MapKept.bytes_beq]
  simp [Instr.keyThatStays,this]
theorem mV {kt:Nat}{d:TypeDesc}{y:SV}(hd:T.und kt=some d)(h:keyOkT T d y=true):mU T kt d/\mg d y.val:=by
 unfold keyOkT at h;split at h
 ·rename_i G;unfold keyOk at G;split at G
  ·exact⟨od hd λq=>RO,rfl⟩
  ·exact⟨od hd λq=>RO,rfl⟩
  ·exact⟨od hd λq=>RO,trivial⟩
  ·cases G
 ·split at h
  ·rename_i H he hi;have H:=kP H;subst H;exact⟨GO hd he (oz hi),rfl,_,_,rfl⟩
  ·cases h
 ·cases h
theorem ju {es:List MapEntry}{q:Value}{x:MapEntry}(J:(es.map (·.key)).Nodup)(G:x∈es)(V:x.key=q):cB es q=some x.val:=by
 unfold cB
 induction es with
 | nil=>cases G
 | cons y l W=>
  rw [Pk,PO]at J;by_cases H:y.key=q
  ·rw [List.find?_cons_of_pos (by simpa using H)];rcases O4.1 G with rfl | G
   ·rfl
   ·exfalso;exact J.1 (Pw.2 ⟨x,G,by rw [V,H]⟩)
  ·rw [List.find?_cons_of_neg (by simpa using H)];rcases O4.1 G with rfl | G
   ·exact absurd V H
   ·exact W J.2 G
theorem iB {es:List MapEntry}{q:Value}(h:∀x∈es,x.key≠q):cB es q=none:=by
 unfold cB;rw [List.find?_eq_none.2 λx G=>by simpa using h x G];rfl
theorem pT (es:List MapEntry)(q:Value):(∃x∈es,x.key=q/\cB es q=some x.val)\/((∀x∈es,x.key≠q)/\cB es q=none):=by
 by_cases h:∀x∈es,x.key≠q
 ·exact .inr ⟨h,iB h⟩
 ·left;unfold cB;cases G:es.find? λx=>@decide (x.key=q) (Classical.propDecidable _)with
  | none=>exact absurd (λx H=>by simpa using List.find?_eq_none.1 G x H) h
  | some x=>
   have J:=Rj G;have h2:=List.find?_some G;exact⟨x,J,by simpa using h2,rfl⟩
theorem Ab {t:Nat}:(Instr.makeMap t none).run T.P w= .ok (.map (some w.heap.size)) (w.alloc (.map #[] 0)):=by
 rfl
theorem A5 {d:TypeDesc}{es:Array MapEntry}(h:∀x∈es.toList,mg d x.key)(i:Nat)(f:MapEntry->MapEntry)(G:∀e,es[i]?=some e->(f e).key=e.key):∀x∈(es.modify i f).toList,mg d x.key:=by
 intro x H;have:x.key∈(es.modify i f).toList.map (·.key):=Pw.2 ⟨x,H,rfl⟩;rw [MapKept.modify_keys i f G]at this;obtain⟨y,J,e⟩:=Pw.1 this;rw [<-e];exact h y J
theorem pF {r:Nat}{o H:Obj}(hb:w.heap[r]?=some o):bw w {w with heap:=w.heap.setIfInBounds r H} r:=⟨rfl,rfl,rfl,by simp,λb G=>(R0 hb).2 b G⟩
theorem uR {r clock:Nat}{d:TypeDesc}{q:Value}(z:Value){m:Value->Option Value}{es:Array MapEntry}(hb:w.heap[r]?=some (.map es clock))(hs:MapKept.Stamped es clock)(W:∀x∈es.toList,mg d x.key)(J:∀q,m q=cB es.toList q)(hq:mg d q)(h2:∀x∈es.toList,x.key≠q):
  IsMap {w with heap:=w.heap.setIfInBounds r (.map (es.push {key:=q,val:=z,born:=clock}) (clock+1))} r d (bR m q z):=by
 have H:=MapKept.stamped_push hs h2 (val:=z);refine⟨_,_,(R0 hb).1,H,?_,λp=>?_⟩
 ·intro x G;simp only [RN,OS,OO]at G;rcases G with G | rfl
  ·exact W x G
  ·exact hq
 ·rw [RN];unfold bR;by_cases V:p=q
  ·rw [Pj V];refine(ju (x:={key:=q,val:=z,born:=clock}) ?_ (by simp) V.symm).symm;have :=H.2.2
   rwa [RN]at this
  ·rw [O1 V,J p];rcases pT es.toList p with⟨x,Z,k2,k3⟩ | ⟨Z,k2⟩
   ·rw [k3];refine(ju (x:=x) ?_ (by simp [Z]) k2).symm;have :=H.2.2
    rwa [RN]at this
   ·rw [k2];refine(iB λx G=>?_).symm;rcases OS.1 G with G | G
    ·exact Z x G
    ·have:x={key:=q,val:=z,born:=clock}:=by simpa using G
     subst this;exact λe=>V e.symm
theorem rj {es:Array MapEntry}{j:Nat}{x:MapEntry}(hj:es[j]?=some x){f g:MapEntry->MapEntry}(h:f x=g x):es.modify j f=es.modify j g:=by
 apply Array.ext_getElem?;intro i;rw [QH,QH];split
 ·rename_i e;subst e;rw [hj];simp [h]
 ·rfl
theorem jK {r clock j:Nat}{d:TypeDesc}{q:Value}(z:Value){m:Value->Option Value}{es:Array MapEntry}{x:MapEntry}(hb:w.heap[r]?=some (.map es clock))(hs:MapKept.Stamped es clock)(α:∀x∈es.toList,mg d x.key)(Z:∀q,m q=cB es.toList q)(hj:es[j]?=some x)(h3:x.key=q):
  IsMap {w with heap:=w.heap.setIfInBounds r (.map (es.modify j λe=>{e with key:=q,val:=z}) clock)} r d (bR m q z):=by
 have J:∀W,es[j]?=some W->({W with key:=q,val:=z}:MapEntry).key=W.key:=λW H=>by rw [hj]at H;cases H;exact h3.symm
 have V:MapKept.Stamped (es.modify j λe=>{e with key:=q,val:=z}) clock:=MapKept.stamped_modify hs _ _ (λ _ _=>rfl) (λW _ H=>J W H);refine⟨_,_,(R0 hb).1,V,A5 α _ _ J,λp=>?_⟩;have γ:j< es.size:=(Ps.1 hj).1;have G:∀i,(es.modify j λe=>{e with key:=q,val:=z}).toList[i]?=if i=j then some {x with key:=q,val:=z}else es.toList[i]?:=λi=>by
  rw [Qj,QH];by_cases hi:j=i
  ·subst hi;simp [hj]
  ·simp [hi,R2 hi]
 unfold bR;by_cases hp:p=q
 ·rw [Pj hp];refine(ju (x:={x with key:=q,val:=z}) V.2.2 (QO (i:=j) (by rw [G,Pj rfl])) hp.symm).symm
 ·rw [O1 hp,Z p];rcases pT es.toList p with⟨y,k1,k2,k3⟩ | ⟨k1,k2⟩
  ·rw [k3];obtain⟨i,hi,e⟩:=PD.1 k1;have β:i≠j:=λhh=>by
    subst hh;have:es.toList[i]?=some y:=by rw [OH hi,e]
    rw [Qj,hj]at this;cases this;exact hp (k2.symm.trans h3)
   refine(ju (x:=y) V.2.2 (QO (i:=i) (by rw [G,O1 β,OH hi,e])) k2).symm
  ·rw [k2];refine(iB λy hy=>?_).symm;obtain⟨i,hi⟩:=List.mem_iff_getElem?.1 hy;rw [G]at hi;split at hi
   ·cases hi;exact λe=>hp e.symm
   ·exact k1 y (QO hi)
theorem vi {t kt et r:Nat}{d:TypeDesc}{q z:Value}{m:Value->Option Value}(hm:T.und t=some (.map kt et))(hd:mU T kt d)(J:mg d q)(h:IsMap w r d m):
  ∃w',(Instr.mapUpdate t (.map (some r)) q z).run T.P w= .ok () w'/\IsMap w' r d (bR m q z)/\bw w w' r:=by
 obtain⟨es,clock,hb,Z,H,G⟩:=h;have V:=T.und_ok _ _ hm;rcases hd.find w q es.toList J H with⟨W,h2⟩ | ⟨j,x,W,h2,h3⟩
 ·refine⟨_,?_,uR z hb Z H G J h2,pF hb⟩;simp [Instr.mapUpdate,Rc V,QD hb,hd.check w q _ J,W,Q7 _ hb,Result.andThen]
 ·have hj:es[j]?=some x:=by simpa using h2
  refine⟨_,?_,jK z hb Z H G hj h3,pF hb⟩;simp [Instr.mapUpdate,Rc V,QD hb,hd.check w q _ J,W,hj,h3,hd.stays w q J,Q7 _ hb,Result.andThen]
theorem yK {t kt Z r:Nat}{d:TypeDesc}{q:Value}{m:Value->Option Value}{i:Value×Nat×Nat}(hm:T.und t=some (.map kt Z))(hd:mU T kt d)(hi:T.inf Z=some i)(J:mg d q)(h:IsMap w r d m):
  ∃v0 s w',(Instr.mapEntry t (.map (some r)) q).run T.P w= .ok (.tuple #[v0,.int .i64 s]) w'/\IsMap w' r d (bR m q v0)/\bw w w' r/\nI w' r s q:=by
 obtain⟨es,clock,hb,hs,H,G⟩:=h;obtain⟨z,sz,bb⟩:=i;have V:=T.und_ok _ _ hm;rcases hd.find w q es.toList J H with⟨W,h2⟩ | ⟨j,x,W,h2,h3⟩
 ·refine⟨z,clock,_,?_,uR z hb hs H G J h2,pF hb,_,_,es.size,{key:=q,val:=z,born:=clock},(R0 hb).1,by simp,rfl,rfl⟩;simp [Instr.mapEntry,Rc V,QD hb,hd.check w q _ J,W,(bL hi w).2,Q7 _ hb,Result.andThen,goInt]
 ·have hj:es[j]?=some x:=by simpa using h2
  have e:es.modify j (λe=>{e with key:=q})=es.modify j λe=>{e with key:=q,val:=x.val}:=rj hj rfl
  refine⟨x.val,x.born,_,?_,jK x.val hb hs H G hj h3,pF hb,_,_,j,{x with key:=q,val:=x.val},(R0 hb).1,by simp [QH,hj],rfl,rfl⟩;simp [Instr.mapEntry,Rc V,QD hb,hd.check w q _ J,W,hj,h3,hd.stays w q J,Q7 _ hb,Result.andThen,goInt,e]
theorem uy {t r:Nat}{d:TypeDesc}{q z:Value}{s:Int}{m:Value->Option Value}(h:IsMap w r d m)(he:nI w r s q):
  ∃w',(Instr.entryStore t (.map (some r)) (.int .i64 s) z).run T.P w= .ok () w'/\IsMap w' r d (bR m q z)/\bw w w' r:=by
 obtain⟨es,clock,hb,W,Z,G⟩:=h;obtain⟨β,V,j,x,H,hj,hk,rfl⟩:=he;rw [hb]at H;cases H;have e:es.modify j (λe=>{e with val:=z})=es.modify j λe=>{e with key:=q,val:=z}:=rj hj (by rw [<-hk])
 have α:j< es.size:=(Ps.1 hj).1;have J:es[j]=x:=(Ps.1 hj).2;have hf:es.findIdx? (λe=>(e.born:Int)==(x.born:Int))=some j:=by
  rw [Array.findIdx?_eq_some_iff_getElem];refine⟨α,by simp [J],λi hi=>?_⟩;have γ:=W.2.1;intro hb;have hb:es[i].born=es[j].born:=by
   have:(es[i].born:Int)=x.born:=by simpa using hb
   rw [J];omega
  have h1:(es.toList.map (·.born))[i]'(by simp;omega)=(es.toList.map (·.born))[j]'(by simp;omega):=by simpa using hb
  have :=(List.getElem_inj (((MapKept.stamped_iff es clock).1 W).2.1)).1 h1;omega
 refine⟨_,?_,jK z hb W Z G hj hk,pF hb⟩;simp [Instr.entryStore,QD hb,asInt,asIntOf,hf,Q7 _ hb,Result.andThen,e]
theorem B9 {t kt et r s sb:Nat}{d:TypeDesc}{q z:Value}{m:Value->Option Value}{ok:Bool}(hm:T.und t=some (.map kt et))(hd:mU T kt d)(hi:T.inf et=some (z,s,sb))(V:mg d q)(h:IsMap w r d m)
  {y:Value} {g:Bool} (hg:(g=true/\m q=some y)\/(g=false/\m q=none/\y=z)):
  (Instr.lookup t (.map (some r)) q ok).run T.P w= .ok (if ok then .tuple #[y,.bool g]else y) w:=by
 obtain⟨es,clock,hb,hs,W,G⟩:=h;have H:=T.und_ok _ _ hm;rcases hd.find w q es.toList V W with⟨Z,h2⟩ | ⟨j,x,Z,h2,h3⟩
 ·have J:m q=none:=by rw [G];exact iB h2
  rcases hg with⟨_,h⟩ | ⟨rfl,_,rfl⟩
  ·rw [J]at h;cases h
  ·simp [Instr.lookup,Rc H,QD hb,hd.check w q _ V,Z,(bL hi w).2,Result.andThen]
 ·have J:m q=some x.val:=by rw [G];exact ju hs.2.2 (QO h2) h3
  rcases hg with⟨rfl,h⟩ | ⟨_,h,_⟩
  ·rw [J]at h;cases h;simp [Instr.lookup,Rc H,QD hb,hd.check w q _ V,Z,Result.andThen]
  ·rw [J]at h;cases h
theorem qk {z:Value}(h:ay z=true):z.cells=#[z]:=by cases z<;>first | rfl | cases h
theorem wu {z:Value}(h:ay z=true)(n:Nat):(Builtin.zeroCells z.cells n).toList=List.replicate n z:=by
 rw [qk h];unfold Builtin.zeroCells;rw [P1,Array.toList_range];refine Rv (by simp) λi G h2=>?_
 simp [Nat.mod_one]
theorem G7 {z:Value}(h:ay z=true)(n:Nat):madeCells z.cells n=(List.replicate n z).toArray:=by
 rw [qk h];unfold madeCells;apply Qa.1;rw [P1,Array.toList_range];refine Rv (by simp) λi G h2=>?_
 simp [Nat.mod_one]
theorem we {t el s:Nat}{n:Int}{z:Value}(H:T.und t=some (.slice el))(hi:T.inf el=some (z,1,s))(J:ay z=true)(W:s<=256)(G:0<=n)(Z:n<=1099511627776):
  (Instr.makeSlice t (.int .i64 n) (.int .i64 n)).run T.P w= .ok (.slice (some ⟨w.heap.size,0,none⟩) n.toNat n.toNat) (w.alloc (.cells (List.replicate n.toNat z).toArray el)):=by
 obtain⟨i,h2,V,h4,h5⟩:=T.inf_ok _ _ _ _ hi;have hb:(i.bytes:Int)* n<=256* n:=Int.mul_le_mul_of_nonneg_right (by omega) G;rw [run_make w t el i z (T.und_ok _ _ H) h2 V .i64 .i64 n n G (Int.le_refl _) (by omega) (by omega),h4,Pn,G7 J]
theorem FL {t el ty n cap b off V:Nat}{z:Value}(H:T.und t=some (.slice el))(hi:T.inf el=some (z,1,V))(J:ay z=true)(hc:∀j,j< n->(∃u,w.cell? ⟨b,off+j,none⟩=some u)/\w.frozen? ⟨b,off+j,none⟩=false):
  (Builtin.clear_ #[t] ty #[.slice (some ⟨b,off,none⟩) n cap]).run T.P w= .ok (.tuple #[]) (World.setCells w b off (List.replicate n z)):=by
 have G:=nT (T:=T) (b:=b) (List.replicate n z) off 0 w (by simp [J]) (by simpa using hc);cases n with
 | zero=>simp [Builtin.clear_,bF H,World.setCells]
 | succ n=>
  simp only [Builtin.clear_,Ri,P3,O3,bF H,ON,(bL hi w).2,wu J,G,Ro,O5]
theorem CJ {t el ty cap:Nat}{G:Option Addr}(H:T.und t=some (.slice el)):(Builtin.clear_ #[t] ty #[.slice G 0 cap]).run T.P w= .ok (.tuple #[]) w:=by
 cases G<;>simp [Builtin.clear_,bF H]
theorem Cp {t n el s b:Nat}{zs:Array Value}(G:T.und t=some (.array n el))(hi:T.inf t=some (.agg zs,s,b))(he:(T.inf el).isSome=true):(Instr.build t #[]).run T.P w= .ok (.agg zs) w:=by
 obtain⟨⟨z,J,V⟩,H⟩:=Option.isSome_iff_exists.1 he;simp [Instr.build,(bL hi w).2,bF G,(bL H w).1,Instr.fill,Value.cells,Result.andThen]
theorem DY:∀(ps:List (Nat×SV)) (zs xs:List SV),(∀x,x∈ps->x.2.val.cells=(cellsOf x.2).toArray)->buildAr zs ps=some xs->
  Instr.fill (λi=>some (i* 1,1)) (SV.aQ zs).toArray (ps.map λp=>(p.1,p.2.val))=some (SV.aQ xs).toArray
 | [],zs,xs,_,h=>by cases h;rfl
 | (i,x)::r,zs,xs,G,h=>by
  unfold buildAr at h;split at h
  ·rename_i Z hc H;obtain⟨H,rfl⟩:=yS H;have W:=DY r _ xs (λy hy=>G y (OZ _ hy)) h;have V:x.val.cells=#[x.val]:=by
    rw [G (i,x) (Py)];cases x<;>first | rfl | (cases hc;done)
   simp only [Pk,Instr.fill,V,Pn];rw [O1 (by simp [gP];omega)];have J:(#[x.val].zipIdx.foldl (λcs (c,j)=>cs.setIfInBounds (i+j) c) (SV.aQ zs).toArray)=(SV.aQ (zs.set i x)).toArray:=by
    rw [tD];simp
   rw [J];simp only [Pn]at W;exact W
  ·cases h
theorem Bz {t n el s b V:Nat}{z:Value}{zs:Array Value}{ps:List (Nat×SV)}{xs:List SV}{parts:Array (Nat×Value)}(W:T.und t=some (.array n el))(hi:T.inf t=some (.agg zs,s,b))(he:T.inf el=some (z,1,V))
  (G:parts.toList=ps.map λp=>(p.1,p.2.val)) (H:∀x,x∈ps->x.2.val.cells=(cellsOf x.2).toArray) (hb:buildAr (mapR svOf zs.toList) ps=some xs):
  (Instr.build t parts).run T.P w= .ok (.agg (SV.aQ xs).toArray) w:=by
 have Z:(SV.aQ (mapR svOf zs.toList)).toArray=zs:=by
  have:∀l:List Value,SV.aQ (mapR svOf l)=l:=by
   intro l;induction l with
   | nil=>rfl
   | cons v l ih=>simp only [mapR,SV.aQ,AB,ih]
  rw [this]
 have J:=DY ps _ xs H hb;rw [Z]at J;simp only [Instr.build,O3,(bL hi w).2,ON,bF W,Value.cells,(bL he w).1,G,J,O5]
theorem CK {t el W:Nat}{z:Value}{G H J V:UInt32}(Z:T.und t=some (.array 2 el))(he:T.und el=some (.int .u32))(hi:T.inf el=some (z,1,W)):
  (binOp .neq t (.agg #[.int .u32 G.toNat,.int .u32 H.toNat]) (.agg #[.int .u32 J.toNat,.int .u32 V.toNat])).run T.P w= .ok (.bool (!(decide (G=J)&&decide (H=V)))) w:=by
 have hs:single (T.und el)=true:=by rw [he]
 have es:∀(a b:UInt32) (n:Nat),(Op.equalIn (n+1) el (.int .u32 a.toNat) (.int .u32 b.toNat)).run T.P w= .ok (decide (a=b)) w:=λa b n=>by
  simp only [Op.equalIn,O3,bF he,ON,Qw,O5,Jh]
 have h:(Op.equal t (.agg #[.int .u32 G.toNat,.int .u32 H.toNat]) (.agg #[.int .u32 J.toNat,.int .u32 V.toNat])).run T.P w= .ok (decide (G=J)&&decide (H=V)) w:=
  xe Z hi hs (es _ _ _) (es _ _ _)
 simp only [binOp,O3,h,ON,O5]
theorem zv {t el W:Nat}{z G H J V:Value}{Z yo:Operand}(ht:T.und t=some (.array 2 el))(he:T.und el=some (.int .u32))(hi:T.inf el=some (z,1,W)):
  (eqGuard .neq t Z yo (.agg #[G,H]) (.agg #[J,V])).run T.P w= .ok () w:=by
 have g:(Op.eqGuardIn Op.maxDepth t (.agg #[G,H]) (.agg #[J,V])).run T.P w= .ok false w:=FB (d:=Op.maxDepth - 2) ht hi he;unfold eqGuard;cases hb:T.P.eqGuardType T.P.depth t<;>simp [O3,run_program,ON,hb,g]
theorem wP {t el:Nat}(G:T.und t=some (.slice el))(q:Option Addr)(n c:Nat):
  (binOp .eql t (.slice q n c) (.slice none 0 0)).run T.P w= .ok (.bool q.isNone) w/\(binOp .neq t (.slice q n c) (.slice none 0 0)).run T.P w= .ok (.bool (!q.isNone)) w:=by
 have h:(Op.equal t (.slice q n c) (.slice none 0 0)).run T.P w= .ok q.isNone w:=by
  show(Op.equalIn Op.maxDepth t _ _).run T.P w=_;have:Op.maxDepth=(Op.maxDepth - 1)+1:=rfl;rw [this];cases q<;>simp only [Op.equalIn,O3,bF G,ON,O5]<;>rfl
 constructor<;>simp only [binOp,O3,h,ON,O5]
end
theorem pure_run {T:eC}{N:Nat}{e:Env}{o:Oper}{a:Act}{k:SV->Prop}(G:aE N e a)(h:y6 T e o k):cE T.P o a k:=by
 unfold y6 pureR at h;split at h
 ·rename_i x J;split at h
  ·exact xh G (.inl J) (by assumption) h
  ·exact h.elim
 ·rename_i x J;split at h
  ·exact xh G (.inr J) (by assumption) h
  ·exact h.elim
 ·rename_i c x y J;split at h
  ·rename_i hc;split at h
   ·exact xp G J (aH G hc) (by simpa using ‹_›) h
   ·exact h.elim
  ·rename_i hc;split at h
   ·exact xp G J (aH G hc) (by simpa using ‹_›) h
   ·exact h.elim
  ·exact h.elim
 ·rename_i op t x y yt J;split at h
  ·rename_i p q H hy;split at h
   ·rename_i z hz;exact dK G J H hy (CZ hz) (λw=>H5 hz) h
   ·split at h
    ·rename_i pr z hz;exact dK G J H hy (Dt hz) (λw=>Hx hz h.1) h.2
    ·split at h
     ·rename_i V hb hc _ _;exact dK (z:= .b _) G J H hy (wA hb) (by rw [px hb,px hc];exact λw=>(ua V _ _).1) h
     ·rename_i V hb hc _ _;exact dK (z:= .b _) G J H hy (wA hb) (by rw [px hb,px hc];exact λw=>(ua V _ _).2) h
     ·rename_i el V _ _ _ _;split at h
      ·obtain⟨q,rfl,h⟩:=h;exact dK (z:= .b _) G J H hy (λ _=>rfl) (λw=>(sV V q).1) h
      ·exact dK (z:= .ff) G J H hy (λ _=>rfl) (λw=>(sV V (some _)).1) h
      ·exact h.elim
     ·rename_i el V _ _ _ _;split at h
      ·obtain⟨q,rfl,h⟩:=h;exact dK (z:= .b _) G J H hy (λ _=>rfl) (λw=>(sV V q).2) h
      ·exact dK (z:= .tt) G J H hy (λ _=>rfl) (λw=>(sV V (some _)).2) h
      ·exact h.elim
     ·rename_i el V _ _ _ _;split at h
      ·split at h
       ·rename_i hn hm;have hn:=kP hn;have hm:=kP hm;subst hn;subst hm;obtain⟨q,n,c,rfl,h⟩:=h;exact dK (z:= .b _) G J H hy (λ _=>rfl) (λw=>(wP V q n c).1) h
       ·exact h.elim
      ·exact h.elim
     ·rename_i el V _ _ _ _;split at h
      ·split at h
       ·rename_i hn hm;have hn:=kP hn;have hm:=kP hm;subst hn;subst hm;obtain⟨q,n,c,rfl,h⟩:=h;exact dK (z:= .b _) G J H hy (λ _=>rfl) (λw=>(wP V q n c).2) h
       ·exact h.elim
      ·exact h.elim
     ·rename_i el V _ _ _ _;split at h
      ·rename_i hu hi _ _ _ _;have hn:=kP (by assumption);subst hn;have hi:=oz hi;obtain⟨x0,x1,y0,y1,rfl,rfl,h⟩:=h;refine cE.mk _ h λw=>EJ J ?_ ?_
       ·rw [aH G H,aH G hy];exact zv V hu hi
       ·rw [aH G H,aH G hy];exact CK V hu hi
      ·exact h.elim
     ·exact h.elim
  ·exact h.elim
 ·rename_i op t x J;split at h
  ·rename_i y hy;split at h
   ·rename_i z hz;refine cE.mk _ h λw=>?_
    simp only [execOp,J,aH G hy,O3,KG hz,ON,O5]
   ·exact h.elim
  ·rename_i n hn;refine cE.mk _ h.2 λw=>?_
   simp only [execOp,J,aH G hn,SV.val,Op.unary,Op.intArith,O3,ON,O5,kA h.1]
  ·exact h.elim
 ·rename_i src dst x J;split at h
  ·rename_i k' c hs hd H;refine cE.mk _ h λw=>?_
   have:IntKind.i64.wrap (c.toNat:Int)=c.toNat:=kA (by have :=c.toNat_lt;unfold a7;omega);simp only [execOp,J,aH G H,SV.val,convert,O3,bF hs,bF hd,ON,Conv.intToInt,O5,this]
  ·rename_i k' n hs hd H;refine cE.mk _ h λw=>?_
   have:IntKind.u8.wrap n=((UInt8.ofNat (n % 256).toNat).toNat:Int):=by
    rw [wrap_u8,PT];omega
   simp only [execOp,J,aH G H,SV.val,convert,O3,bF hs,bF hd,ON,Conv.intToInt,O5,this]
  ·rename_i k' n hs hd H;refine cE.mk _ h.2 λw=>?_
   simp only [execOp,J,aH G H,SV.val,convert,O3,bF hs,bF hd,ON,Conv.intToInt,O5,kA h.1]
  ·rename_i k' c hs hd H;refine cE.mk _ h λw=>?_
   have:IntKind.i32.wrap (c.toNat:Int)=c.toNat:=IntWalk.i32_in _ (by have :=c.toNat_lt;omega);simp only [execOp,J,aH G H,SV.val,convert,O3,bF hs,bF hd,ON,Conv.intToInt,O5,this]
  ·rename_i k' n hs hd H;refine cE.mk _ h.2 λw=>?_
   have:IntKind.i32.wrap n=n:=IntWalk.i32_in _ (by have :=h.1;omega);simp only [execOp,J,aH G H,SV.val,convert,O3,bF hs,bF hd,ON,Conv.intToInt,O5,this]
  ·rename_i k' n hs hd H;refine cE.mk _ h.2 λw=>?_
   simp only [execOp,J,aH G H,SV.val,convert,O3,bF hs,bF hd,ON,Conv.intToString,O5,Fa h.1.1 h.1.2]
  ·exact h.elim
 ·rename_i t x ix J;split at h
  ·rename_i l n V H hn;refine cE.mk _ h.2 λw=>?_
   simp only [execOp,J,aH G H,aH G hn,SV.val,O3,Ja V h.1.1 h.1.2,ON,O5]
  ·exact h.elim
 ·rename_i t x lo hi J;have α:∀{q:Option (Option SV)} {n:Option Int},J3 (ev e) lo=q->q=n.map (λm=>some (SV.i m))->lo.map a.eval=nV n:=by
   intro q n W h2;cases lo<;>cases n<;>simp at W h2<;>subst W<;>simp at h2
   ·rfl
   ·simp [nV,aH G h2,SV.val]
  have β:∀{q:Option (Option SV)} {n:Option Int},J3 (ev e) hi=q->q=n.map (λm=>some (SV.i m))->hi.map a.eval=nV n:=by
   intro q n W h2;cases hi<;>cases n<;>simp at W h2<;>subst W<;>simp at h2
   ·rfl
   ·simp [nV,aH G h2,SV.val]
  have hs:∀{l:aB} {n m:Option Int},T.und t=some .string->ev e x=some (.s l)->lo.map a.eval=nV n->hi.map a.eval=nV m->0<=n.getD 0->n.getD 0<=m.getD l.length->m.getD l.length<=l.length->
    k (.s ((l.take (m.getD l.length).toNat).drop (n.getD 0).toNat))->cE T.P o a k:=by
   intro l n m V H W h2 h3 h4 h5 hk;refine cE.mk _ hk λw=>?_
   simp only [execOp,J,aH G H,SV.val,W,h2,R8,O3,yw V h3 h4 h5,ON,O5]
  have hv:∀{el:Nat} {val:Value} {n m:Option Int},T.und t=some (.slice el)->ev e x=some (.v val)->lo.map a.eval=nV n->hi.map a.eval=nV m->runPR (slR T el val (n.getD 0) m) k->cE T.P o a k:=by
   intro el val n m V H W h2 hk;unfold slR at hk;split at hk
   ·exact hk.elim
   ·rename_i z sz b θ;cases m with
    | none=>
     obtain⟨ad,len,cap,rfl,h3,h4,h5,hk⟩:=hk;refine cE.mk _ hk λw=>?_
     simp only [execOp,J,aH G H,SV.val,W,h2,R8,O3,qZ (hi:=none) V θ h3 h4 h5,ON,O5];rfl
    | some m=>
     obtain⟨ad,len,cap,rfl,h3,h4,h5,hk⟩:=hk;refine cE.mk _ hk λw=>?_
     simp only [execOp,J,aH G H,SV.val,W,h2,R8,O3,qZ (hi:=some m) V θ h3 h4 h5,ON,O5];rfl
  split at h
  ·rename_i l V H W h2;refine hs (n:=none) (m:=none) V H (α W rfl) (β h2 rfl) (by simp) (by simp) (by simp) ?_;simpa [runPR]using h
  ·rename_i l p V H W h2;refine hs (n:=some p) (m:=none) V H (α W rfl) (β h2 rfl) h.1.1 h.1.2 (by simp) ?_;simpa using h.2
  ·rename_i l q V H W h2;refine hs (n:=none) (m:=some q) V H (α W rfl) (β h2 rfl) (by simp) h.1.1 h.1.2 ?_;simpa using h.2
  ·rename_i l p q V H W h2;exact hs (n:=some p) (m:=some q) V H (α W rfl) (β h2 rfl) h.1.1 h.1.2.1 h.1.2.2 h.2
  ·rename_i el val V H W h2;exact hv (n:=none) (m:=none) V H (α W rfl) (β h2 rfl) h
  ·rename_i el val p V H W h2;exact hv (n:=some p) (m:=none) V H (α W rfl) (β h2 rfl) h
  ·rename_i el val q V H W h2;exact hv (n:=none) (m:=some q) V H (α W rfl) (β h2 rfl) h
  ·rename_i el val p q V H W h2;exact hv (n:=some p) (m:=some q) V H (α W rfl) (β h2 rfl) h
  ·exact h.elim
 ·rename_i x i J;split at h
  ·rename_i xs H;split at h
   ·rename_i y hy;refine cE.mk _ h λw=>?_
    rw [yU]at hy;have ι:∀(l:List SV) (j:Nat) (z:SV),l[j]?=some z->(SV.aQ l)[j]?=some z.val:=by
     intro l
     induction l with
     | nil=>intro j z hz;simp at hz
     | cons p l ih=>intro j z hz;cases j with
      | zero=>simp at hz;subst hz;rfl
      | succ j=>simp at hz;simpa [SV.aQ]using ih j z hz
    simp only [execOp,J,aH G H,SV.val,Instr.extract,Ri,ι _ _ _ hy,O3,ON,O5]
   ·exact h.elim
  ·exact h.elim
 ·rename_i x J;split at h
  ·rename_i b off H;refine cE.mk _ h λw=>?_
   simp only [execOp,J,aH G H,SV.val,O5]
  ·rename_i val H;obtain⟨b,off,rfl,h⟩:=h;refine cE.mk _ h λw=>?_
   simp only [execOp,J,aH G H,SV.val,O5]
  ·exact h.elim
 ·rename_i s x f J;split at h
  ·rename_i fs b off hs H;split at h
   ·rename_i fd hf;rw [eK]at hf;split at h
    ·rename_i z sz bb hi;split at h
     ·exact h.elim
     ·rename_i hz;refine cE.mk _ h λw=>?_
      simp only [execOp,J,aH G H,SV.val,O3,Fm hs hf hi (λe=>by rw [e]at hz;cases hz),ON,O5]
    ·exact h.elim
   ·exact h.elim
  ·exact h.elim
 ·rename_i t x ix J;split at h
  ·rename_i el val n V H hn;split at h
   ·rename_i z sz bb hi;obtain⟨b,off,len,cap,rfl,h0,W,h⟩:=h;obtain⟨y,hy,δ⟩:=Bi hn;obtain⟨kd,ε⟩:=DL δ;refine cE.mk _ h λw=>?_
    simp only [execOp,J,aH G H,aH G hy,ε,SV.val,O3,F5 V hi h0 W,ON,O5]
   ·exact h.elim
  ·rename_i len el b off n V H hn;split at h
   ·rename_i z sz bb hi;obtain⟨y,hy,δ⟩:=Bi hn;obtain⟨kd,ε⟩:=DL δ;refine cE.mk _ h.2 λw=>?_
    simp only [execOp,J,aH G H,aH G hy,ε,SV.val,O3,Fq V hi h.1.1 h.1.2,ON,O5]
   ·exact h.elim
  ·exact h.elim
 ·rename_i t parts J;split at h
  ·rename_i fs zs s b ps V hi hp;split at h
   ·rename_i xs γ hb
    ·obtain⟨ζ,h⟩:=okAllC.get h;have η:∀f∈fs.toList,∃z s b,T.inf f.type=some (z,s,b):=by
      intro f hf;rw [EB]at γ;have :=QN.1 γ f hf;rw [DJ]at this;obtain⟨⟨z,s,b⟩,H⟩:=Option.isSome_iff_exists.1 this;exact⟨z,s,b,H⟩
     refine cE.mk _ h λw=>?_
     have Z:(parts.map λp=>(p.1,a.eval p.2)).toList=ps.map λp=>(p.1,p.2.val):=by
      rw [P1];exact u0 G hp
     have hr:=FU (w:=w) V hi η Z ζ hb;simp only [execOp,J,O3];rw [show(Array.map (λx=>match x with | (i,x)=>(i,a.eval x)) parts)=parts.map λp=>(p.1,a.eval p.2)from rfl,hr];simp only [ON,O5,SV.val]
   ·exact h.elim
  ·rename_i n el zs s b V hi hp;split at h
   ·rename_i he;rw [DJ]at he;refine cE.mk _ h λw=>?_
    have Z:parts.map (λp=>(p.1,a.eval p.2))=#[]:=by
     apply Qa.1;rw [P1,u0 G hp];rfl
    simp only [execOp,J,O3];rw [show(Array.map (λx=>match x with | (i,x)=>(i,a.eval x)) parts)=parts.map λp=>(p.1,a.eval p.2)from rfl,Z,Cp V hi he];simp only [ON,O5,SV.val]
   ·exact h.elim
  ·rename_i n el zs s b p ps V hi hp;split at h
   ·rename_i z bb he;have he:=oz he;split at h
    ·rename_i xs hb;obtain⟨ζ,h⟩:=okAllC.get h;refine cE.mk _ h λw=>?_
     have Z:(parts.map λp=>(p.1,a.eval p.2)).toList=(p::ps).map λp=>(p.1,p.2.val):=by
      rw [P1];exact u0 G hp
     have hr:=Bz (w:=w) V hi he Z ζ hb;simp only [execOp,J,O3];rw [show(Array.map (λx=>match x with | (i,x)=>(i,a.eval x)) parts)=parts.map λp=>(p.1,a.eval p.2)from rfl,hr];simp only [ON,O5,SV.val]
    ·exact h.elim
   ·exact h.elim
  ·exact h.elim
 ·rename_i fn first captured J;split at h
  ·rename_i f ys W h2;refine cE.mk _ h λw=>?_
   have e1:first.map a.eval=#[]:=by
    apply Qa.1;rw [P1,im G W]
   have e2:captured.map a.eval=(SV.aQ ys).toArray:=by
    apply Qa.1;rw [P1,im G h2]
   simp only [execOp,J,O3,Instr.makeFunc,e1,e2,ON,O5,SV.val]
  ·exact h.elim
 ·rename_i c J;split at h
  ·rename_i hc;have key:∀{t:Nat} {y:SV} {v:Value},nt c.argTypes.toList 0=some t->Oc e (nt c.args.toList 0)=some y->(∀ty w,(Builtin.len_ #[t] ty #[y.val]).run T.P w= .ok v w)->
     ∀w,(execOp a.eval o).run T.P w= .ok (.value v) w:=by
    intro t y v W h2 h3 w;rw [eK]at W h2;obtain⟨ar,κ,μ⟩:∃ar,c.args[0]?=some ar/\ev e ar=some y:=by
     cases hq:c.args[0]? with
     | none=>rw [hq]at h2;cases h2
     | some ar=>rw [hq]at h2;exact⟨ar,rfl,h2⟩
    have h4:∀ty,(Builtin.len_ c.argTypes ty (c.args.map a.eval)).run T.P w= .ok v w:=by
     intro ty;rw [<-h3 ty w];have e1:(c.args.map a.eval)[0]?=some y.val:=by rw [Array.getElem?_map,κ];simp [aH G μ]
     simp only [Builtin.len_,W,e1];rfl
    simp only [execOp,J,resolve,hc,O3,O5,ON,invoke,builtin,h4]
   split at h
   ·rename_i t l W h2;split at h
    ·rename_i V;exact cE.mk (.i _) h (key W h2 λty w=>HY V)
    ·exact h.elim
   ·rename_i t val W h2;split at h
    ·rename_i el V;obtain⟨ad,n,cap,rfl,h⟩:=h;exact cE.mk (.i _) h (key W h2 λty w=>HB V)
    ·exact h.elim
   ·exact h.elim
  ·rename_i hc;split at h
   ·rename_i p q h2;have e2:c.args.map a.eval=#[.int .i64 p,.int .i64 q]:=by apply Qa.1;rw [P1,im G h2]
    refine cE.mk _ h λw=>?_
    simp only [execOp,J,resolve,hc,O3,O5,ON,invoke,builtin,e2,KA,SV.val]
   ·rename_i p q h2;have e2:c.args.map a.eval=#[.string (ai p),.string (ai q)]:=by apply Qa.1;rw [P1,im G h2]
    refine cE.mk _ h λw=>?_
    simp only [execOp,J,resolve,hc,O3,O5,ON,invoke,builtin,e2,Gp,SV.val]
   ·exact h.elim
  ·rename_i hc;split at h
   ·rename_i p q h2;have e2:c.args.map a.eval=#[.int .i64 p,.int .i64 q]:=by apply Qa.1;rw [P1,im G h2]
    refine cE.mk _ h λw=>?_
    simp only [execOp,J,resolve,hc,O3,O5,ON,invoke,builtin,e2,Js,SV.val]
   ·rename_i p q h2;have e2:c.args.map a.eval=#[.string (ai p),.string (ai q)]:=by apply Qa.1;rw [P1,im G h2]
    refine cE.mk _ h λw=>?_
    simp only [execOp,J,resolve,hc,O3,O5,ON,invoke,builtin,e2,H9,SV.val]
   ·exact h.elim
  ·exact h.elim
 ·exact h.elim
theorem cV.pure {T:eC}{o:Oper}{a:Act}{w:World}{k:SV->Sl}(h:cE T.P o a λy=>k y w):cV T.P o a w k:=by
 obtain⟨y,G,hr⟩:=h;exact cV.value (hr w) rfl G
theorem uA {T:eC}{o:Oper}{a:Act}{w:World}{k:SV->Sl}{t b off:Nat}{x:Operand}(J:o.op= .load t x)(V:a.eval x= .pointer (some ⟨b,off,none⟩))(h:ur T t b off w k):cV T.P o a w k:=by
 unfold ur loadR at h;split at h
 ·rename_i G;obtain⟨y,hc,h⟩:=h;refine cV.value (w':=w) ?_ rfl h;simp only [execOp,J,V,O3,ql G hc,ON,O5]
 ··split at h
   ·rename_i ks z n Z G hk hi;split at h
    ·rename_i H;have H:=kP H;rw [mB]at H;obtain⟨xs,W,hc,h⟩:=ExL.get h;refine cV.value (w':=w) ?_ rfl h;simp only [execOp,J,V,SV.val,O3,jH (cs:=SV.aQ xs) (jI G w) hi (by rw [gP,W,H]) (λj hj=>hc.get j (by omega)),ON,O5]
    ·exact h.elim
   ·rename_i z n Z G hk hi;obtain⟨cs,W,hc,h⟩:=h;refine cV.value (w':=w) ?_ rfl h;simp only [execOp,J,V,SV.val,O3,jH (jI G w) hi W hc,ON,O5]
   ·exact h.elim
theorem re {T:eC}{N:Nat}{e:Env}{o:Oper}{a:Act}{w:World}{k:SV->Sl}{t b off:Nat}{x y:Operand}{z:SV}(G:aE N e a)(V:o.op= .store t x y)(W:a.eval x= .pointer (some ⟨b,off,none⟩))(Z:ev e y=some z)(h:qM T t b off z w k):cV T.P o a w k:=by
 have many:∀{n H:Nat} {J:Value} {cs:List Value},T.inf t=some (J,n,H)->z.val= .agg cs.toArray->xA w b off n cs k->cV T.P o a w k:=by
  intro n H J cs hi hz h;obtain⟨⟨h1,h2,h3⟩,h⟩:=h;refine cV.skip (w':=_) ?_ (h _ rfl);simp only [execOp,V,W,aH G Z,hz,O3];rw [BF hi h1 h2 h3];simp only [ON,O5]
 unfold qM storeR at h;split at h
 ·rename_i hs;split at h
  ·rename_i J H hi;have hi:=oz hi;obtain⟨hv,⟨⟨u,hu⟩,hf⟩,h⟩:=oneOk.get h;refine cV.skip (w':=_) ?_ (h _ rfl);simp only [execOp,V,W,aH G Z,O3,Du hi hv hu hf,ON,O5]
  ·exact h.elim
 ·split at h
  ·rename_i hi;exact many hi rfl h
  ·rename_i hi;exact many hi rfl h
  ·rename_i hi;obtain⟨cs,rfl,h⟩:=h;exact many hi rfl h
  ·exact h.elim
theorem rD {T:eC}{N:Nat}{e:Env}{o:Oper}{a:Act}{w:World}{k:SV->Sl}{t:Nat}{m x y:Operand}(G:aE N e a)
  (V:∀(ρ:Operand->Value) (w w':World),(Instr.mapUpdate t (ρ m) (ρ x) (ρ y)).run T.P w= .ok () w'->(execOp ρ o).run T.P w= .ok .skip w') (h:runOR T (mapupR T e t m x y) w k):cV T.P o a w k:=by
 unfold mapupR at h;split at h
 ·rename_i kt et val q z hm W Z hz;split at h
  ·rename_i d hd;split at h
   ·rename_i J;obtain⟨r,mm,rfl,H,h⟩:=h;obtain⟨w',h1,h2,h3⟩:=vi (z:=z.val) hm (mV hd J).1 (mV hd J).2 H;refine cV.skip (w':=w') (V _ _ _ ?_) (h w' h2 h3);rw [aH G W,aH G Z,aH G hz];exact h1
   ·exact h.elim
  ·exact h.elim
 ·exact h.elim
theorem oS {T:eC}{N:Nat}{e:Env}{o:Oper}{a:Act}{w:World}{k:SV->Sl}(G:aE N e a)(h:zS T e o w k):cV T.P o a w k:=by
 unfold zS opR at h;split at h
 ·rename_i src dst x H;split at h
  ·rename_i el l hs hd Z;split at h
   ·rename_i he;obtain⟨cap,w',J,h2,h3⟩:=yd (w:=w) (l:=l) hs hd he;refine cV.value (w':=w') ?_ rfl (h _ cap w' rfl h2 h3);simp only [execOp,H,aH G Z,SV.val,O3,J,ON,O5]
   ·exact h.elim
  ·rename_i el val hs hd Z;split at h
   ·rename_i he;obtain⟨b,off,n,c,l,rfl,J,h2,h⟩:=h;refine cV.value (w':=w) ?_ rfl h;simp only [execOp,H,aH G Z,SV.val,O3,run_convert_bytes_string (P:=T.P) w src dst el _ _ _ (T.und_ok _ _ hs) (T.und_ok _ _ he) (T.und_ok _ _ hd),vf J h2,ON,O5]
   ·exact h.elim
  ·exact cV.pure (pure_run G h)
 ·rename_i t x H;split at h
  ·rename_i b off Z;exact uA H (aH G Z) h
  ·rename_i val Z;obtain⟨b,off,rfl,h⟩:=h;exact uA H (aH G Z) h
  ·exact h.elim
 ·rename_i t x y H;split at h
  ·rename_i b off z Z hy;exact re G H (aH G Z) hy h
  ·rename_i val z Z hy;obtain⟨b,off,rfl,h⟩:=h;exact re G H (aH G Z) hy h
  ·exact h.elim
 ·rename_i el H;split at h
  ·rename_i z s b hi;simp only [runOR,gN,mR]at h;refine cV.value (w':=_) ?_ rfl (h _ _ rfl rfl);simp only [execOp,H,O3,E7 hi (.tuple #[]),ON,O5,SV.val]
  ·exact h.elim
 ·rename_i t H;refine cV.value (w':=_) ?_ rfl (h _ _ rfl rfl);simp only [execOp,H,R8,O3,Ab,ON,O5,SV.val]
 ·rename_i t l c H;split at h
  ·rename_i el n m ht hl hc;split at h
   ·rename_i z s hi;have hi:=oz hi;split at h
    ·rename_i α δ;obtain⟨⟨h0,rfl,J⟩,h⟩:=h;refine cV.value (w':=_) ?_ rfl (h _ _ rfl rfl);simp only [execOp,H,aH G hl,aH G hc,SV.val,O3,we ht hi α (RL δ) h0 J,ON,O5]
    ·exact h.elim
   ·exact h.elim
  ·exact h.elim
 ·rename_i t m x y H;exact rD G (λρ w r h=>by simp only [execOp,H,O3,h,ON,O5]) h
 ·rename_i t m x y H;exact rD G (λρ w r h=>by simp only [execOp,H,O3,h,ON,O5]) h
 ·rename_i t m x H;split at h
  ·rename_i kt et val q hm W hq;split at h
   ·rename_i d i hd hi;split at h
    ·rename_i hk;obtain⟨r,mm,rfl,V,h⟩:=h;obtain⟨v0,s,w',J,h2,h3,h4⟩:=yK hm (mV hd hk).1 hi (mV hd hk).2 V;refine cV.value (w':=w') ?_ rfl (h v0 s w' h2 h3 h4);simp only [execOp,H,aH G W,aH G hq,O3];rw [show(SV.v (.map (some r))).val= .map (some r)from rfl,J];rfl
    ·exact h.elim
   ·exact h.elim
  ·exact h.elim
 ·rename_i t m s y H;split at h
  ·rename_i val s y W hs hy;obtain⟨r,d,mm,q,rfl,V,he,h⟩:=h;obtain⟨w',J,h2,h3⟩:=uy (t:=t) (z:=y.val) V he;refine cV.skip (w':=w') ?_ (h w' h2 h3);simp only [execOp,H,aH G W,aH G hs,aH G hy,O3];rw [show(SV.v (.map (some r))).val= .map (some r)from rfl,show(SV.i s).val= .int .i64 s from rfl,J];rfl
  ·exact h.elim
 ·rename_i t m x ok H;split at h
  ·rename_i kt et val q hm W hq;split at h
   ·rename_i d z sb hd hi;split at h
    ·rename_i hk;obtain⟨r,mm,rfl,V,y,g,hg,h⟩:=h;have hr:=B9 (ok:=ok) hm (mV hd hk).1 hi (mV hd hk).2 V hg;refine cV.value (w':=w) ?_ rfl h;simp only [execOp,H,aH G W,aH G hq,O3];rw [show(SV.v (.map (some r))).val= .map (some r)from rfl,hr];cases ok<;>simp only [ON,O5]<;>rfl
    ·exact h.elim
   ·exact h.elim
  ·exact h.elim
 ·rename_i el x H;split at h
  ·rename_i y hy;split at h
   ·rename_i val W _;have W:=HD W;subst W;obtain⟨cs,rfl,h⟩:=h;refine cV.value (w':=_) ?_ rfl (h _ _ rfl rfl);simp only [execOp,H,aH G hy,O3,zi,ON,O5,SV.val];rfl
   ·rename_i val W _;have W:=HD W;subst W;obtain⟨J,h⟩:=h;refine cV.value (w':=_) ?_ rfl (h _ _ rfl rfl);simp only [execOp,H,aH G hy,O3,zi,ON,O5,SV.val,qk J]
   ·simp only [runOR,gN]at h;obtain⟨hc,h⟩:=okC.get h;refine cV.value (w':=_) ?_ rfl (h _ _ rfl rfl);simp only [execOp,H,aH G hy,O3,zi,ON,O5,SV.val,hc]
  ·exact h.elim
 ·rename_i t len parts H;split at h
  ·rename_i el ps ht hp;split at h
   ·rename_i z sz b hi;split at h
    ·rename_i cs ζ η θ hb
     ·rw [DZ,mR]at hb;rw [mB,mR]at ζ;simp only [runOR,gN]at h;obtain⟨ι,h⟩:=okAllC.get h;refine cV.value (w':=_) ?_ rfl (h _ _ rfl rfl);have β:(parts.map λp=>(p.1,a.eval p.2)).toList=ps.map λp=>(p.1,p.2.val):=by
       rw [P1];exact u0 G hp
      have hr:=Cb (w:=w) ht hi (by simpa using kP ζ) (RL η) (RL θ) β ι hb;simp only [execOp,H,O3];rw [show(Array.map (λx=>match x with | (i,x)=>(i,a.eval x)) parts)=parts.map λp=>(p.1,a.eval p.2)from rfl,hr];simp only [ON,O5,SV.val]
    ·exact h.elim
   ·exact h.elim
  ·exact h.elim
 ·rename_i c H;split at h
  ·rename_i hc;split at h
   ·rename_i t t' s x J h2;split at h
    ·rename_i el ε ht;have ε:=kP ε;subst ε
     ·split at h
      ·rename_i z sz by_ hi;split at h
       ·rename_i α δ;rw [mB,mR]at α;have e1:c.argTypes=#[t,t]:=Qa.1 J;have e2:c.args.map a.eval=#[s,x]:=by apply Qa.1;rw [P1,im G h2]
        obtain⟨v,w',hr,hk⟩:=Df (ty:=o.type) ht hi (by simpa using kP α) (RL δ) h;refine cV.value (w':=w') ?_ rfl hk;simp only [execOp,H,resolve,hc,O3,O5,ON,invoke,builtin,e1,e2,hr,SV.val]
       ·exact h.elim
      ·exact h.elim
    ·exact h.elim
   ·exact h.elim
  ·rename_i hc;split at h
   ·rename_i t s J h2;split at h
    ·rename_i el ht;split at h
     ·rename_i z sb hi;have hi:=oz hi;split at h
      ·rename_i hz;obtain⟨ad,n,cap,rfl,h⟩:=h;have e1:c.argTypes=#[t]:=Qa.1 J;have e2:c.args.map a.eval=#[.slice ad n cap]:=by apply Qa.1;rw [P1,im G h2]
       rcases h with⟨rfl,h⟩ | ⟨b,off,rfl,γ,h⟩
       ·refine cV.value (w':=w) ?_ rfl h;simp only [execOp,H,resolve,hc,O3,O5,ON,invoke,builtin,e1,e2,CJ ht,SV.val,SV.aQ]
       ·refine cV.value (w':=_) ?_ rfl (h _ rfl);simp only [execOp,H,resolve,hc,O3,O5,ON,invoke,builtin,e1,e2,FL ht hi hz γ,SV.val,SV.aQ]
      ·exact h.elim
     ·exact h.elim
    ·exact h.elim
   ·exact h.elim
  ·rename_i t hc;split at h
   ·rename_i val xs J h2;simp only [runOR,gN]at h;obtain⟨f,ca,W,hf,h⟩:=h;exact Hm G H hc J W hf h2 h
   ·exact h.elim
  ·rename_i f hc;split at h
   ·rename_i xs hf Z;simp only [runOR,gN]at h;exact Fi G H hc hf Z h
   ·exact h.elim
  ·exact cV.pure (pure_run G h)
 ·exact cV.pure (pure_run G h)
@[reducible] def slotOf (ops:Array Oper) (j:Nat):Option Nat:=match nt (nJ ops) j with
 | some o=>(Fc o)
 | none=>none
theorem E9 (ops:Array Oper)(j:Nat):slotOf ops j=(ops[j]?).bind (·.dst):=by
 unfold slotOf;rw [eK];cases ops[j]?<;>rfl
@[reducible] def bindDst (d:Option Nat) (y:SV) (e:Env):Env:=match d with
 | some d=>(d,y)::e
 | none=>e
def bindK:Option Nat->SV->Env->(Env->Prop)->Prop
 | some d,y,e,k=>k ((d,y)::e)
 | none,_,e,k=>k e
theorem cD (d:Option Nat)(y:SV)(e:Env)(k:Env->Prop):bindK d y e k=k (bindDst d y e):=by cases d<;>rfl
@[reducible] def beqR (a b:Nat):Bool:=match Nat.beq a b with
 | true=>true
 | false=>false
theorem Kl (a b:Nat):beqR a b=Nat.beq a b:=by unfold beqR;cases Nat.beq a b<;>rfl
def boolK:Bool->Prop->Prop->Prop
 | true,a,_=>a
 | false,_,b=>b
inductive GS where
 | run | skip | ifT (g:Nat) (x:Bool) | ifF (g:Nat) (x:Bool) | bad
@[reducible] def gst (ops:Array Oper) (e:Env):Option (Nat×Bool)->GS
 | none=> .run
 | some (j,want)=>match slotOf ops j with
  | none=> .bad
  | some g=>match look e g,want with
   | some .tt,true=> .run
   | some .ff,false=> .run
   | some .tt,false=> .skip
   | some .ff,true=> .skip
   | some .un,_=> .skip
   | some (.b x),true=> .ifT g x
   | some (.b x),false=> .ifF g x
   | _,_=> .bad
def guardG:GS->Env->(Env->Prop)->(Env->Prop)->Prop
 | .run,e,run,_=>run e
 | .skip,e,_,G=>G e
 | .ifT g x,e,run,G=>(x=true->run ((g,.tt)::e))/\(x=false->G ((g,.ff)::e))
 | .ifF g x,e,run,G=>(x=false->run ((g,.ff)::e))/\(x=true->G ((g,.tt)::e))
 | .bad,_,_,_=>False
def vcOps (T:eC)(all:Array Oper)(K:Env->Sl):List Oper->Env->Sl
 | [],e,w=>K e w
 | o::r,e,w=>guardG (gst all e (Om o)) e (λe=>zS T e o w λy w'=>bindK (Fc o) y e λG=>vcOps T all K r G w') (λe=>bindK (Fc o) .un e λG=>vcOps T all K r G w)
def okOps (N:Nat)(l:List Oper):Bool:=l.all λo=>match o.dst with | some d=>decide (d< N) | none=>true
@[reducible] def dsts:List Oper->List Nat
 | []=>[]
 | o::l=>match (Fc o)with
  | some d=>d::dsts l
  | none=>dsts l
theorem Dz:∀l:List Oper,dsts l=l.filterMap (·.dst)
 | []=>rfl
 | ⟨d,_,_,_,_,_⟩::l=>by
  rw [dsts,List.filterMap_cons,Dz l];cases d<;>rfl
def dL (ws:List Nat)(a a':Act):Prop:=∀t,t∉ws->a'.tmps.getD t undef=a.tmps.getD t undef
theorem dL.refl (ws:List Nat)(a:Act):dL ws a a:=λ _ _=>rfl
theorem dL.trans {ws:List Nat}{a b c:Act}(h:dL ws a b)(k:dL ws b c):dL ws a c:=λt G=>(k t G).trans (h t G)
theorem dL.mono {ws G:List Nat}{a b:Act}(h:dL ws a b)(H:∀t,t∈ws->t∈G):dL G a b:=λt J=>h t λh'=>J (H t h')
theorem dL.put (a:Act)(d:Option Nat)(v:Value)(ws:List Nat)(h:∀x,d=some x->x∈ws):dL ws a (a.put d v):=by
 intro t H;cases d with
 | none=>rfl
 | some d=>
  have G:d≠t:=λe=>H (e▸h d rfl)
  show(a.tmps.setIfInBounds d v).getD t undef=_;simp only [Array.getD,Array.size_setIfInBounds];split
  ·exact Array.getElem_setIfInBounds_ne _ G
  ·rfl
theorem aE.bind {N:Nat}{e:Env}{a:Act}(h:aE N e a){d:Option Nat}(hd:(match d with | some d=>decide (d< N) | none=>true)=true){x:SV}:aE N (bindDst d x e) (a.put d x.val):=by
 cases d with
 | none=>exact h
 | some d=>exact h.put (by simpa using hd) rfl
theorem aE.again {N:Nat}{e:Env}{a:Act}(h:aE N e a){g:Nat}{x y:SV}(H:look e g=some x)(J:x.val=y.val):aE N ((g,y)::e) a:=by
 refine⟨h.1,λt z G=>?_⟩;simp only [look]at G;split at G
 ·rename_i heq;have:g=t:=by simpa using heq
  subst this;cases G;rw [h.2 _ _ H,J]
 ·exact h.2 t z G
theorem wanted_of {N:Nat}{e:Env}{a:Act}(J:aE N e a){all:Array Oper}{o:Oper}{j:Nat}{want:Bool}{g:Nat}{x:SV}(Z:o.guard=some (j,want))(W:slotOf all j=some g)(hx:look e g=some x):
  Region.wanted o (yielded all a.tmps)=(match x.val with | .bool b=>b==want | _=>false):=by
 have H:=J.2 _ _ hx;rw [E9]at W;simp only [Region.wanted,Z,yielded,W,Option.bind_some];simp only [Array.getD]at H;split at H
 ·rename_i G;have V:a.tmps[g]?=some x.val:=by rw [Array.getElem?_eq_getElem G];exact PS some H
  rw [V];cases x.val<;>first | rfl | simp
 ·rename_i G;have:a.tmps[g]?=none:=by simp at G|-;omega
  rw [this,<-H];rfl
theorem pX {T:eC}{N:Nat}{all:Array Oper}{K:Env->Sl}{Q:Exit->Act->Sl}:∀(l:List Oper) (e:Env) (a:Act) (w:World),aE N e a->okOps N l=true->vcOps T all K l e w->
  (∀e' a' w',K e' w'->aE N e' a'->a'.defers=a.defers->dL (dsts l) a a'->Q .normal a' w')->wpList T.P all Q l a w
 | [],e,a,w,G,β,h,hQ=>hQ e a w h G rfl (dL.refl _ _)
 | o::r,e,a,w,G,β,h,hQ=>by
  simp only [okOps,PZ,OJ]at β;obtain⟨hd,α⟩:=β;have ζ:∀x,o.dst=some x->x∈dsts (o::r):=by
   intro x H;simp [dsts,H]
  have γ:∀t,t∈dsts r->t∈dsts (o::r):=by
   intro t ht;simp only [dsts,List.filterMap_cons]at*;split<;>simp_all
  have δ:∀(v:Value) e' a' w',K e' w'->aE N e' a'->a'.defers=(a.put o.dst v).defers->dL (dsts r) (a.put o.dst v) a'->Q .normal a' w':=by
   intro v e' a' w' hk ε η θ;refine hQ e' a' w' hk ε (η.trans ?_) ((dL.put a o.dst v _ ζ).trans (θ.mono γ));cases o.dst<;>rfl
  have run:∀{e1:Env},aE N e1 a->(zS T e1 o w λy w'=>vcOps T all K r (bindDst o.dst y e1) w')->Region.wanted o (yielded all a.tmps)=true->wpList T.P all Q (o::r) a w:=by
   intro e1 J h1 hw;unfold wpList;rw [Pj hw];left;exact oS J h1 _ _ λy w' hk=>pX r _ _ _ (J.bind hd) α hk (δ y.val)
  have V:∀{e1:Env},aE N e1 a->vcOps T all K r (bindDst o.dst .un e1) w->Region.wanted o (yielded all a.tmps)=false->wpList T.P all Q (o::r) a w:=by
   intro e1 J h1 hw;unfold wpList;rw [O1 (by rw [hw];simp)];exact pX r _ _ _ (J.bind (x:= .un) hd) α h1 (δ undef)
  unfold vcOps at h;simp only [cD]at h;unfold gst at h;split at h
  ·rename_i W;exact run G h (by simp [Region.wanted,W])
  ·rename_i j want W;split at h
   ·exact h.elim
   ·rename_i g Z;split at h
    ·rename_i H;exact run G h (by rw [wanted_of G W Z H];rfl)
    ·rename_i H;exact run G h (by rw [wanted_of G W Z H];rfl)
    ·rename_i H;exact V G h (by rw [wanted_of G W Z H];rfl)
    ·rename_i H;exact V G h (by rw [wanted_of G W Z H];rfl)
    ·rename_i H;exact V G h (by rw [wanted_of G W Z H];rfl)
    ·rename_i x H;cases x with
     | true=>exact run (G.again (y:= .tt) H rfl) (h.1 rfl) (by rw [wanted_of G W Z H];rfl)
     | false=>exact V (G.again (y:= .ff) H rfl) (h.2 rfl) (by rw [wanted_of G W Z H];rfl)
    ·rename_i x H;cases x with
     | false=>exact run (G.again (y:= .ff) H rfl) (h.1 rfl) (by rw [wanted_of G W Z H];rfl)
     | true=>exact V (G.again (y:= .tt) H rfl) (h.2 rfl) (by rw [wanted_of G W Z H];rfl)
    ·exact h.elim
@[reducible] def Md (T:eC) (o:Oper):Bool:=match (KT o)with
 | .load .. =>false
 | .store .. =>false
 | .alloc .. =>false
 | .box .. =>false
 | .buildSlice .. =>false
 | .makeMap .. =>false
 | .makeSlice .. =>false
 | .mapUpdate .. =>false
 | .insert .. =>false
 | .lookup .. =>false
 | .mapEntry .. =>false
 | .entryStore .. =>false
 | .convert src dst _=>(match T.U src,T.U dst with
  | some .string,some (.slice _)=>false
  | some (.slice _),some .string=>false
  | _,_=>true)
 | .call c=>(match N9 c with
  | .builtin .len=>true
  | .builtin .max=>true
  | .builtin .min=>true
  | _=>false)
 | _=>true
@[reducible] def isLoad (o:Oper):Bool:=match (KT o)with
 | .load .. =>true
 | _=>false
def runLoadH:LR->(Sl)->Nat->Nat->(SV->Prop)->Prop
 | .one kd,S,b,off,k=>NG kd λy=>(∀w',S w'->w'.cell? ⟨b,off,none⟩=some y.val)/\k y
 | .agg ks,S,b,off,k=>ExL ks λxs=>(∀w',S w'->CellsAt w' b off xs)/\k (.ag xs)
 | .list n,S,b,off,k=>∃cs:List Value,cs.length=n/\(∀w',S w'->∀j,j< n->w'.cell? ⟨b,off+j,none⟩=cs[j]?)/\k (.agl cs)
 | .bad,_,_,_,_=>False
def qw (T:eC)(t b off:Nat)(S:Sl)(k:SV->Prop):Prop:=runLoadH (loadR T t) S b off k
inductive HR where
 | at_ (r:LR) (b off:Nat) | val (r:LR) (v:Value) | bad
@[reducible] def hR (T:eC) (e:Env):Op->HR
 | .load t x=>match ev e x with
  | some (.a b off)=> .at_ (loadR T t) b off
  | some (.v val)=> .val (loadR T t) val
  | _=> .bad
 | _=> .bad
def runH:HR->(Sl)->(SV->Prop)->Prop
 | .at_ r b off,S,k=>runLoadH r S b off k
 | .val r v,S,k=>∃b off,v= .pointer (some ⟨b,off,none⟩)/\runLoadH r S b off k
 | .bad,_,_=>False
def sH (T:eC)(e:Env)(o:Oper)(S:Sl)(k:SV->Prop):Prop:=runH (hR T e (KT o)) S k
def nS (ops:Array Oper)(e:Env)(o:Oper)(run G:Env->Prop):Prop:=guardG (gst ops e (Om o)) e run G
def Ky (X:Nat->Prop):List Nat->Prop
 | []=>True
 | [i]=>X i
 | i::r=>X i/\Ky X r
theorem Ky.get {X:Nat->Prop}:∀{r:List Nat},Ky X r->∀i∈r,X i
 | [],_,i,hi=>by cases hi
 | [j],h,i,hi=>by
  have:i=j:=by simpa using hi
  subst this;exact h
 | j::G::r,h,i,hi=>by
  cases hi with
  | head=>exact h.1
  | tail _ hi=>exact Ky.get (r:=G::r) h.2 i hi
theorem eI {N:Nat}{ops:Array Oper}{e:Env}{a:Act}{o:Oper}{run Z:Env->Prop}{G:Prop}(H:aE N e a)(h:nS ops e o run Z)
  (hr:∀e',aE N e' a->run e'->Region.wanted o (yielded ops a.tmps)=true->G) (hs:∀e',aE N e' a->Z e'->Region.wanted o (yielded ops a.tmps)=false->G):G:=by
 unfold nS gst at h;split at h
 ·rename_i W;exact hr e H h (by simp [Region.wanted,W])
 ·rename_i j want W;split at h
  ·exact h.elim
  ·rename_i g J;split at h
   ·rename_i V;exact hr e H h (by rw [wanted_of H W J V];rfl)
   ·rename_i V;exact hr e H h (by rw [wanted_of H W J V];rfl)
   ·rename_i V;exact hs e H h (by rw [wanted_of H W J V];rfl)
   ·rename_i V;exact hs e H h (by rw [wanted_of H W J V];rfl)
   ·rename_i V;exact hs e H h (by rw [wanted_of H W J V];rfl)
   ·rename_i x V;cases x with
    | true=>exact hr _ (H.again (y:= .tt) V rfl) (h.1 rfl) (by rw [wanted_of H W J V];rfl)
    | false=>exact hs _ (H.again (y:= .ff) V rfl) (h.2 rfl) (by rw [wanted_of H W J V];rfl)
   ·rename_i x V;cases x with
    | false=>exact hr _ (H.again (y:= .ff) V rfl) (h.1 rfl) (by rw [wanted_of H W J V];rfl)
    | true=>exact hs _ (H.again (y:= .tt) V rfl) (h.2 rfl) (by rw [wanted_of H W J V];rfl)
   ·exact h.elim
theorem rC {T:eC}{a:Act}{o:Oper}{S:Sl}{k:SV->Prop}{t b off:Nat}{x:Operand}(J:o.op= .load t x)(V:a.eval x= .pointer (some ⟨b,off,none⟩))(h:qw T t b off S k):
  ∃y,k y/\∀w,S w->(execOp a.eval o).run T.P w= .ok (.value y.val) w:=by
 unfold qw loadR at h;split at h
 ·rename_i G;obtain⟨y,hc,h⟩:=h;refine⟨_,h,λw hw=>?_⟩;simp only [execOp,J,V,O3,ql G (hc w hw),ON,O5]
 ··split at h
   ·rename_i ks z n Z G hk hi;split at h
    ·rename_i H;have H:=kP H;rw [mB]at H;obtain⟨xs,W,hc,h⟩:=ExL.get h;refine⟨_,h,λw hw=>?_⟩;simp only [execOp,J,V,SV.val,O3,jH (cs:=SV.aQ xs) (jI G w) hi (by rw [gP,W,H]) (λj hj=>(hc w hw).get j (by omega)),ON,O5]
    ·exact h.elim
   ·rename_i z n Z G hk hi;obtain⟨cs,W,hc,h⟩:=h;refine⟨_,h,λw hw=>?_⟩;simp only [execOp,J,V,SV.val,O3,jH (jI G w) hi W (hc w hw),ON,O5]
   ·exact h.elim
theorem wZ {T:eC}{N:Nat}{e:Env}{a:Act}{o:Oper}{S:Sl}{k:SV->Prop}(G:aE N e a)(h:sH T e o S k):
  ∃y,k y/\∀w,S w->(execOp a.eval o).run T.P w= .ok (.value y.val) w:=by
 unfold sH hR at h;split at h
 ·rename_i t x J;split at h
  ·rename_i b off H;exact rC J (aH G H) h
  ·rename_i val H;obtain⟨b,off,rfl,h⟩:=h;exact rC J (aH G H) h
  ·exact h.elim
 ·exact h.elim
def kI (ops:Array Oper)(j:Nat):Bool:=match ops[j]? with
 | none=>true
 | some G=>(List.range ops.size).any λi=>(match ops[i]? with | some o=>isLoad o | none=>false)&&G.after.toList.all λe=> !(Region.binds .any e)|| !(e.on==i)
theorem By {ops:Array Oper}{i j:Nat}{G H:Oper}(hi:ops[i]?=some G)(hj:ops[j]?=some H)(J:isLoad G=true)(V:∀e∈H.after,Region.binds .any e=true->e.on≠i):kI ops j=true:=by
 unfold kI;simp only [hj];refine QP.2 ⟨i,Qc.2 (Ps.1 hi).1,?_⟩;simp only [hi,J,QC];refine QN.2 λe he=>?_
 have :=V e (by simpa using he);cases hb:Region.binds .any e with
 | false=>rfl
 | true=>simp [this hb]
def dP (P:Program)(ops:Array Oper)(lt:Nat->Bool)(Q:Exit->Act->Sl)(S:Sl):Nat->Array Bool->Act->Sl
 | 0,G,a,w=>Region.ready .any ops G=[]/\Q .normal a w
 | fuel+1,G,a,w=>
  (Region.ready .any ops G=[]->Q .normal a w)/\
  ∀i∈Region.ready .any ops G,wpOp P ops Q i (λa' w'=>(if lt i=true then w'=w else kI ops i=true->S w')/\dP P ops lt Q S fuel (G.setIfInBounds i true) a' w') a w
theorem uN {P:Program}{ops:Array Oper}{lt:Nat->Bool}{Q:Exit->Act->Sl}{S:Sl}:∀(fuel:Nat) (G:Array Bool) (a:Act) (w:World),dP P ops lt Q S fuel G a w->wpAny P .any ops Q fuel G a w
 | 0,_,_,_,h=>h
 | fuel+1,_,_,_,h=>⟨h.1,λi hi=>wpOp_mono (λa' w' h'=>uN fuel _ a' w' h'.2) (h.2 i hi)⟩
theorem zk {P:Program}{ops:Array Oper}{lt:Nat->Bool}{Q:Exit->Act->Sl}{S:Sl}{i:Nat}{W:Oper}{v:Value}(hi:ops[i]?=some W)(ε:lt i=true)(β:∀(j:Nat) (o:Oper) cs b,ops[j]?=some o->o.op≠ .select cs b)
  (hQ:∀c a w,Q (.panic c) (a.put W.dst v) w->Q (.panic c) a w):
  ∀(fuel:Nat) (G:Array Bool) (a:Act) (w:World),
   (∀j oj,ops[j]?=some oj->j≠i->G.getD j true=false->(∀e∈oj.after,Region.binds .any e=true->e.on≠i)->W.apart ops oj=true)->
   i∈Region.ready .any ops G->YieldsIf P ops (λw=>isLoad W=true->S w) W v a->(isLoad W=true->S w)->
   dP P ops lt Q S fuel (G.setIfInBounds i true) (a.put W.dst v) w->dP P ops lt Q S (fuel+1) G a w:=by
 intro fuel
 induction fuel with
 | zero=>
  intro G a w _ hr hy hS H;refine⟨λh=>(by rw [h]at hr;cases hr),λj hj=>?_⟩;by_cases J:j=i
  ·subst J;exact hy.wpOp hi hS ⟨by rw [Pj ε],H⟩
  ·have :=ready_mono hj J;rw [H.1]at this;cases this
 | succ fuel ih=>
  intro G a w V hr hy hS H;refine⟨λh=>(by rw [h]at hr;cases hr),λj hj=>?_⟩;by_cases J:j=i
  ·subst J;exact hy.wpOp hi hS ⟨by rw [Pj ε],H⟩
  ·have h1:=H.2 j (ready_mono hj J);obtain⟨γ,oj,Z,ζ⟩:=mem_ready.1 hj;have δ:∀e∈oj.after,Region.binds .any e=true->e.on≠i:=λe he hb heq=>by
    have h1:=ζ e he hb;have h0:=(mem_ready.1 hr).1;rw [heq]at h1;rcases Qn i G.size with h' | h'
    ·simp [h']at h0 h1;rw [h0]at h1;cases h1
    ·simp [Array.getElem?_eq_none h']at h1
   have h2:=wpOp_putIf Z (V j oj Z J γ δ) (λcs b=>β i W cs b hi) (λcs b=>β j oj cs b Z) hQ hy h1;have α:∀k ok,ops[k]?=some ok->k≠i->(G.setIfInBounds j true).getD k true=false->
     (∀e∈ok.after,Region.binds .any e=true->e.on≠i)->W.apart ops ok=true:=λk ok hk ι η κ=>by
    refine V k ok hk ι ?_ κ;by_cases θ:j=k
    ·subst θ;exact γ
    ·rw [getD_set_ne true θ]at η;exact η
   refine wpOp_mono (λa' w' h3=>?_) h2;have μ:isLoad W=true->S w':=by
    intro hl;have h4:=h3.2.1;split at h4
    ·rw [h4];exact hS hl
    ·exact h4 (By hi Z hl δ)
   refine⟨h3.2.1,ih (G.setIfInBounds j true) a' w' α (ready_mono hr (R2 J)) h3.1 μ ?_⟩;rw [Array.setIfInBounds_comm _ _ J];exact h3.2.2
def iM (T:eC)(ops:Array Oper)(i:Nat):Bool:=match ops[i]? with
 | some o=>Md T o||isLoad o
 | none=>false
inductive MQ where
 | h | g | n
 deriving DecidableEq
inductive Pl where
 | done | lt (i:Nat) (p:Pl) | one (k:MQ) (i:Nat) (p:Pl) | br (k:MQ) (i:Nat) (p r:Pl)
def kOk (T:eC)(ops:Array Oper)(late:Bool)(k:MQ)(i:Nat):Bool:=match late,k with
 | false,.h=>true
 | true,.g=> !iM T ops i
 | true,.n=> !iM T ops i&& !kI ops i
 | _,_=>false
def plC (T:eC)(ops:Array Oper)(late:Bool):Pl->Nat->Array Bool->List Nat->Bool->Bool
 | .done,_,_,q,_=>q.isEmpty
 | .lt i p,f+1,L,q,top=>top&&q.contains i&&Region.free .any ops L i&&(!late||iM T ops i)&&plC T ops late p f (L.setIfInBounds i true) (Region.ready .any ops (L.setIfInBounds i true)) true
 | .one k i p,f+1,L,q,_=>q==[i]&&kOk T ops late k i&&plC T ops late p f (L.setIfInBounds i true) (Region.ready .any ops (L.setIfInBounds i true)) true
 | .br k i p r,f+1,L,j::q,_=>j==i&&kOk T ops late k i&&plC T ops late p f (L.setIfInBounds i true) (Region.ready .any ops (L.setIfInBounds i true)) true&&plC T ops late r (f+1) L q false
 | _,_,_,_,_=>false
def runK:MQ->Prop->Prop->Prop
 | .h,s,x=>s/\x
 | .g,s,x=>s/\x
 | .n,_,x=>x
def pP:MQ->Prop->Prop->Prop
 | .h,_,x=>x
 | .g,s,x=>s/\x
 | .n,_,x=>x
def vcP (T:eC)(ops:Array Oper)(S:Sl)(K:Env->Sl):Pl->Env->Sl
 | .done,e,w=>K e w
 | .lt i p,e,w=>optK (nt (nJ ops) i) λo=>nS ops e o
   (λG=>boolK (isLoad o) (sH T G o S λy=>bindK (Fc o) y G λH=>vcP T ops S K p H w) (y6 T G o λy=>bindK (Fc o) y G λH=>vcP T ops S K p H w))
   (λG=>bindK (Fc o) .un G λH=>vcP T ops S K p H w)
 | .one k i p,e,w=>optK (nt (nJ ops) i) λo=>nS ops e o
   (λG=>zS T G o w λy w'=>runK k (S w') (bindK (Fc o) y G λH=>vcP T ops S K p H w'))
   (λG=>pP k (S w) (bindK (Fc o) .un G λH=>vcP T ops S K p H w))
 | .br k i p r,e,w=>(optK (nt (nJ ops) i) λo=>nS ops e o
   (λG=>zS T G o w λy w'=>runK k (S w') (bindK (Fc o) y G λH=>vcP T ops S K p H w'))
   (λG=>pP k (S w) (bindK (Fc o) .un G λH=>vcP T ops S K p H w)))/\vcP T ops S K r e w
section
variable {T:eC} {N:Nat} {ops:Array Oper} {S:Sl} {K:Env->Sl} {Q0:Exit->Act->Sl}
theorem yp (G:okOps N ops.toList=true){i:Nat}{o:Oper}(hi:ops[i]?=some o):(match o.dst with | some d=>decide (d< N) | none=>true)=true/\∀x,o.dst=some x->x∈dsts ops.toList:=by
 have hm:o∈ops.toList:=by
  have :=Array.mem_of_getElem? hi;simpa using this
 exact⟨QN.1 G o hm,λx H=>by rw [Dz];exact List.mem_filterMap.2 ⟨o,hm,H⟩⟩
theorem FZ (γ:Region.noSelect ops=true)(δ:okOps N ops.toList=true)(η:∀c a w,¬Q0 (.panic c) a w):∀(p:Pl) (f:Nat) (L:Array Bool) (q:List Nat) (top:Bool) (e:Env) (a:Act) (w:World),
  plC T ops false p f L q top=true->(top=true->q=Region.ready .any ops L)->aE N e a->S w->vcP T ops S K p e w->
  (∀e' a' w',K e' w'->aE N e' a'->a'.defers=a.defers->dL (dsts ops.toList) a a'->Q0 .normal a' w')->
  (top=true->wpAnyH T.P .any ops Q0 S f L a w)/\(top=false->∀f',f=f'+1->∀i∈q,wpOp T.P ops Q0 i (λa' w'=>S w'/\wpAnyH T.P .any ops Q0 S f' (L.setIfInBounds i true) a' w') a w):=by
 have qp:∀{p:Pl} {f:Nat} {L:Array Bool} {a:Act} {i:Nat} {o:Oper} {e1:Env} {y:SV} {w1:World},
   (∀(f:Nat) (L:Array Bool) (q:List Nat) (top:Bool) (e:Env) (a:Act) (w:World),plC T ops false p f L q top=true->(top=true->q=Region.ready .any ops L)->aE N e a->S w->vcP T ops S K p e w->
    (∀e' a' w',K e' w'->aE N e' a'->a'.defers=a.defers->dL (dsts ops.toList) a a'->Q0 .normal a' w')->
    (top=true->wpAnyH T.P .any ops Q0 S f L a w)/\(top=false->∀f',f=f'+1->∀i∈q,wpOp T.P ops Q0 i (λa' w'=>S w'/\wpAnyH T.P .any ops Q0 S f' (L.setIfInBounds i true) a' w') a w))->
   (∀e' a' w',K e' w'->aE N e' a'->a'.defers=a.defers->dL (dsts ops.toList) a a'->Q0 .normal a' w')->
   ops[i]?=some o->plC T ops false p f (L.setIfInBounds i true) (Region.ready .any ops (L.setIfInBounds i true)) true=true->aE N e1 a->S w1->vcP T ops S K p (bindDst o.dst y e1) w1->
   wpAnyH T.P .any ops Q0 S f (L.setIfInBounds i true) (a.put o.dst y.val) w1:=by
  intro p f L a i o e1 y w1 ih W hi H G θ h1;refine(ih f _ _ true _ _ _ H (λ _=>rfl) (G.bind (yp δ hi).1) θ h1 λe' a' w' V ε ι κ=>W e' a' w' V ε (ι.trans ?_) ((dL.put a o.dst y.val _ (yp δ hi).2).trans κ)).1 rfl;cases o.dst<;>rfl
 intro p
 induction p with
 | done=>
  intro f L q top e a w H hq J Z h W;have μ:q=[]:=by simpa [plC]using H
  subst μ;exact⟨λht=>wpAnyH_done (hq ht).symm (W e a w h J rfl (dL.refl _ _)) _,λ _ _ _ i hi=>by cases hi⟩
 | lt i p ih=>
  intro f L q top e a w H hq J Z h W;cases f with
  | zero=>simp [plC]at H
  | succ f=>
   simp only [plC,OJ]at H;obtain⟨⟨⟨⟨ht,α⟩,ν⟩,_⟩,H⟩:=H;refine⟨λ _=>?_,λh0=>by rw [h0]at ht;cases ht⟩;rw [hq ht]at α;obtain⟨o,hi,h⟩:=bZ h;rw [qf,eK]at hi;have take:∀{v:Value},YieldsIf T.P ops S o v a->wpAnyH T.P .any ops Q0 S f (L.setIfInBounds i true) (a.put o.dst v) w->wpAnyH T.P .any ops Q0 S (f+1) L a w:=by
    intro v hy hw;exact wpAnyH_take hi γ ν (by simpa using α) (λc a w hq=>absurd hq (η c _ _)) hy Z hw
   refine eI J h (λe1 G h1 hw=>?_) (λe1 G h1 hw=>?_)
   ·cases ζ:isLoad o with
    | true=>
     rw [ζ]at h1;obtain⟨y,V,hr⟩:=wZ G h1;rw [cD]at V;exact take (.inl ⟨hw,hr⟩) (qp ih W hi H G Z V)
    | false=>
     rw [ζ]at h1;obtain⟨y,V,hr⟩:=pure_run G h1;rw [cD]at V;exact take (.inl ⟨hw,λw _=>hr w⟩) (qp ih W hi H G Z V)
   ·rw [cD]at h1;exact take (v:=undef) (.inr ⟨hw,rfl⟩) (qp (y:= .un) ih W hi H G Z h1)
 | one k i p ih=>
  intro f L q top e a w H hq J Z h W;cases f with
  | zero=>simp [plC]at H
  | succ f=>
   simp only [plC,OJ,Rb]at H;obtain⟨⟨ξ,V⟩,H⟩:=H;have β:k= .h:=by cases k<;>first | rfl | cases V
   subst β;subst ξ;have key:wpOp T.P ops Q0 i (λa' w'=>S w'/\wpAnyH T.P .any ops Q0 S f (L.setIfInBounds i true) a' w') a w:=by
    obtain⟨o,hi,h⟩:=bZ h;rw [qf,eK]at hi;unfold wpOp;simp only [hi];refine eI J h (λe1 G h2 hw=>?_) (λe1 G h2 hw=>?_)
    ·rw [Pj hw];left;refine oS G h2 _ _ λy w' V=>?_
     obtain⟨h3,h4⟩:=V;rw [cD]at h4;exact⟨h3,qp ih W hi H G h3 h4⟩
    ·rw [O1 (by rw [hw];simp)];simp only [pP,cD]at h2;exact⟨Z,qp (y:= .un) ih W hi H G Z h2⟩
   refine⟨λht=>wpAnyH_all (hq ht).symm (by simp) λj hj=>?_,λ _ f' hf j hj=>?_⟩
   ·rw [OO.1 hj];exact key
   ·cases hf;rw [OO.1 hj];exact key
 | br k i p r ih ο=>
  intro f L q top e a w H hq J Z h W;cases f with
  | zero=>simp [plC]at H
  | succ f=>
   cases q with
   | nil=>simp [plC]at H
   | cons j q=>
    simp only [plC,OJ,Rb]at H;obtain⟨⟨⟨ς,V⟩,H⟩,υ⟩:=H;have β:k= .h:=by cases k<;>first | rfl | cases V
    subst β;subst ς;obtain⟨h,hr⟩:=h;have key:wpOp T.P ops Q0 j (λa' w'=>S w'/\wpAnyH T.P .any ops Q0 S f (L.setIfInBounds j true) a' w') a w:=by
     obtain⟨o,hi,h⟩:=bZ h;rw [qf,eK]at hi;unfold wpOp;simp only [hi];refine eI J h (λe1 G h2 hw=>?_) (λe1 G h2 hw=>?_)
     ·rw [Pj hw];left;refine oS G h2 _ _ λy w' V=>?_
      obtain⟨h3,h4⟩:=V;rw [cD]at h4;exact⟨h3,qp ih W hi H G h3 h4⟩
     ·rw [O1 (by rw [hw];simp)];simp only [pP,cD]at h2;exact⟨Z,qp (y:= .un) ih W hi H G Z h2⟩
    have rest:=(ο (f+1) L q false e a w υ (λh=>by cases h) J Z hr W).2 rfl f rfl;have all:∀i∈j::q,wpOp T.P ops Q0 i (λa' w'=>S w'/\wpAnyH T.P .any ops Q0 S f (L.setIfInBounds i true) a' w') a w:=by
     intro i hi;cases hi with
     | head=>exact key
     | tail _ hi=>exact rest i hi
    exact⟨λht=>wpAnyH_all (hq ht).symm (by simp) all,λ _ f' hf=>by cases hf;exact all⟩
end
def xH (ops:Array Oper)(S:Sl)(G:Array Bool)(w:World):Prop:=∀l ol,ops[l]?=some ol->isLoad ol=true->G.getD l true=false->S w
theorem xH.less {ops:Array Oper}{S:Sl}{G:Array Bool}{w:World}(h:xH ops S G w)(j:Nat):xH ops S (G.setIfInBounds j true) w:=by
 intro l ol V h2 J;refine h l ol V h2 ?_;by_cases H:j=l
 ·subst H;rcases Qn j G.size with h' | h'
  ·simp [Array.getD,h']at J
  ·simp [Array.getD,Nat.not_lt.2 h']at J
 ·rw [getD_set_ne true H]at J;exact J
section
variable {T:eC} {N:Nat} {ops:Array Oper} {S:Sl} {K:Env->Sl} {Q0:Exit->Act->Sl}
theorem FF (η:Region.noSelect ops=true)(θ:okOps N ops.toList=true)(ς:∀c a w,¬Q0 (.panic c) a w):∀(p:Pl) (f:Nat) (L:Array Bool) (q:List Nat) (top:Bool) (e:Env) (a:Act) (w:World),
  plC T ops true p f L q top=true->(∀i∈q,i∈Region.ready .any ops L)->(top=true->q=Region.ready .any ops L)->aE N e a->xH ops S L w->vcP T ops S K p e w->
  (∀Z a' w',K Z w'->aE N Z a'->a'.defers=a.defers->dL (dsts ops.toList) a a'->Q0 .normal a' w')->
  (top=true->dP T.P ops (iM T ops) Q0 S f L a w)/\(top=false->∀f',f=f'+1->∀i∈q,wpOp T.P ops Q0 i (λa' w'=>(if iM T ops i=true then w'=w else kI ops i=true->S w')/\dP T.P ops (iM T ops) Q0 S f' (L.setIfInBounds i true) a' w') a w):=by
 have qp:∀{p:Pl} {f:Nat} {L:Array Bool} {a:Act} {i:Nat} {o:Oper} {e1:Env} {y:SV} {w1:World},
   (∀(f:Nat) (L:Array Bool) (q:List Nat) (top:Bool) (e:Env) (a:Act) (w:World),plC T ops true p f L q top=true->(∀i∈q,i∈Region.ready .any ops L)->(top=true->q=Region.ready .any ops L)->aE N e a->xH ops S L w->vcP T ops S K p e w->
    (∀Z a' w',K Z w'->aE N Z a'->a'.defers=a.defers->dL (dsts ops.toList) a a'->Q0 .normal a' w')->
    (top=true->dP T.P ops (iM T ops) Q0 S f L a w)/\(top=false->∀f',f=f'+1->∀i∈q,wpOp T.P ops Q0 i (λa' w'=>(if iM T ops i=true then w'=w else kI ops i=true->S w')/\dP T.P ops (iM T ops) Q0 S f' (L.setIfInBounds i true) a' w') a w))->
   (∀Z a' w',K Z w'->aE N Z a'->a'.defers=a.defers->dL (dsts ops.toList) a a'->Q0 .normal a' w')->
   ops[i]?=some o->plC T ops true p f (L.setIfInBounds i true) (Region.ready .any ops (L.setIfInBounds i true)) true=true->aE N e1 a->xH ops S (L.setIfInBounds i true) w1->vcP T ops S K p (bindDst o.dst y e1) w1->
   dP T.P ops (iM T ops) Q0 S f (L.setIfInBounds i true) (a.put o.dst y.val) w1:=by
  intro p f L a i o e1 y w1 ih hQ hi H G β h1;refine(ih f _ _ true _ _ _ H (λ _ h=>h) (λ _=>rfl) (G.bind (yp θ hi).1) β h1 λZ a' w' J ι υ φ=>hQ Z a' w' J ι (υ.trans ?_) ((dL.put a o.dst y.val _ (yp θ hi).2).trans φ)).1 rfl;cases o.dst<;>rfl
 have alt:∀{k:MQ} {i:Nat} {p:Pl} {f:Nat} {L:Array Bool} {e:Env} {a:Act} {w:World},
   (∀{o:Oper} {e1:Env} {y:SV} {w1:World},ops[i]?=some o->aE N e1 a->xH ops S (L.setIfInBounds i true) w1->vcP T ops S K p (bindDst o.dst y e1) w1->dP T.P ops (iM T ops) Q0 S f (L.setIfInBounds i true) (a.put o.dst y.val) w1)->
   kOk T ops true k i=true->i∈Region.ready .any ops L->aE N e a->xH ops S L w->
   (optK (nt (nJ ops) i) λo=>nS ops e o (λZ=>zS T Z o w λy w'=>runK k (S w') (bindK (Fc o) y Z λe1=>vcP T ops S K p e1 w')) (λZ=>pP k (S w) (bindK (Fc o) .un Z λe1=>vcP T ops S K p e1 w)))->
   wpOp T.P ops Q0 i (λa' w'=>(if iM T ops i=true then w'=w else kI ops i=true->S w')/\dP T.P ops (iM T ops) Q0 S f (L.setIfInBounds i true) a' w') a w:=by
  intro k i p f L e a w next J χ V hS h;obtain⟨o,hi,h⟩:=bZ h;rw [qf,eK]at hi;have κ:¬iM T ops i=true:=by
   cases k<;>simp [kOk]at J
   ·rw [J];simp
   ·rw [J.1];simp
  have ψ:∀{X Y:Prop},runK k X Y->(kI ops i=true->X)/\Y:=by
   intro X Y h;cases k with
   | h=>cases J
   | g=>exact⟨λ _=>h.1,h.2⟩
   | n=>simp [kOk]at J;exact⟨λhh=>(by rw [J.2]at hh;cases hh),h⟩
  have ω:∀{X Y:Prop},pP k X Y->(kI ops i=true->X)/\Y:=by
   intro X Y h;cases k with
   | h=>cases J
   | g=>exact⟨λ _=>h.1,h.2⟩
   | n=>simp [kOk]at J;exact⟨λhh=>(by rw [J.2]at hh;cases hh),h⟩
  obtain⟨_,oi,μ,ν⟩:=mem_ready.1 χ;rw [hi]at μ;cases μ;unfold wpOp;simp only [hi];refine eI V h (λe1 G h2 hw=>?_) (λe1 G h2 hw=>?_)
  ·rw [Pj hw];left;refine oS G h2 _ _ λy w' J=>?_
   obtain⟨ε,γ⟩:=ψ J;rw [cD]at γ;rw [O1 κ];have inv:(kI ops i=true->S w')->xH ops S (L.setIfInBounds i true) w':=by
    intro hs l ol k1 k2 k3;refine hs (By k1 hi k2 λe he hb heq=>?_);have h4:=ν e he hb;rw [heq]at h4;by_cases ξ:i=l
    ·subst ξ;rcases Qn i L.size with h' | h'
     ·simp [Array.getD,h']at k3
     ·simp [Array.getD,Nat.not_lt.2 h']at k3
    ·rw [getD_set_ne true ξ]at k3;rcases Qn l L.size with h' | h'
     ·simp [Array.getD,h']at k3 h4;rw [k3]at h4;cases h4
     ·simp [Array.getD,Nat.not_lt.2 h']at k3
   exact⟨ε,next hi G (inv ε) γ⟩
  ·rw [O1 (by rw [hw];simp),O1 κ];obtain⟨ε,γ⟩:=ω h2;rw [cD]at γ;exact⟨ε,next (y:= .un) hi G (hS.less i) γ⟩
 intro p
 induction p with
 | done=>
  intro f L q top e a w H α hq V hS h hQ;have hq0:q=[]:=by simpa [plC]using H
  subst hq0;refine⟨λht=>?_,λ _ _ _ i hi=>by cases hi⟩;have hr:=(hq ht).symm;have ο:=hQ e a w h V rfl (dL.refl _ _);cases f with
  | zero=>exact⟨hr,ο⟩
  | succ f=>exact⟨λ _=>ο,λi hi=>by rw [hr]at hi;cases hi⟩
 | lt i p ih=>
  intro f L q top e a w H α hq V hS h hQ;cases f with
  | zero=>simp [plC]at H
  | succ f=>
   simp only [plC,OJ]at H;obtain⟨⟨⟨⟨ht,W⟩,hfr⟩,ζ⟩,H⟩:=H;have ζ:iM T ops i=true:=by simpa using ζ
   refine⟨λ _=>?_,λh0=>by rw [h0]at ht;cases ht⟩;rw [hq ht]at W;have W:i∈Region.ready .any ops L:=by simpa using W
   obtain⟨o,hi,h⟩:=bZ h;rw [qf,eK]at hi;have hSi:isLoad o=true->S w:=λδ=>hS i o hi δ (mem_ready.1 W).1
   have take:∀{v:Value},YieldsIf T.P ops (λw=>isLoad o=true->S w) o v a->dP T.P ops (iM T ops) Q0 S f (L.setIfInBounds i true) (a.put o.dst v) w->dP T.P ops (iM T ops) Q0 S (f+1) L a w:=by
    intro v hy hw;exact zk hi ζ (Region.noSelect_spec η) (λc a w hq=>absurd hq (ς c _ _)) f L a w (Region.free_spec hi hfr) W hy hSi hw
   refine eI V h (λe1 G h1 hw=>?_) (λe1 G h1 hw=>?_)
   ·cases δ:isLoad o with
    | true=>
     rw [δ]at h1;obtain⟨y,J,hr⟩:=wZ G h1;rw [cD]at J;exact take (.inl ⟨hw,λw hs=>hr w (hs δ)⟩) (qp ih hQ hi H G (hS.less i) J)
    | false=>
     rw [δ]at h1;obtain⟨y,J,hr⟩:=pure_run G h1;rw [cD]at J;exact take (.inl ⟨hw,λw _=>hr w⟩) (qp ih hQ hi H G (hS.less i) J)
   ·rw [cD]at h1;exact take (v:=undef) (.inr ⟨hw,rfl⟩) (qp (y:= .un) ih hQ hi H G (hS.less i) h1)
 | one k i p ih=>
  intro f L q top e a w H α hq V hS h hQ;cases f with
  | zero=>simp [plC]at H
  | succ f=>
   simp only [plC,OJ,Rb]at H;obtain⟨⟨hqi,J⟩,H⟩:=H;subst hqi;have key:=alt (f:=f) (λhi G β h1=>qp ih hQ hi H G β h1) J (α i (by simp)) V hS h;have all:∀j∈[i],wpOp T.P ops Q0 j (λa' w'=>(if iM T ops j=true then w'=w else kI ops j=true->S w')/\dP T.P ops (iM T ops) Q0 S f (L.setIfInBounds j true) a' w') a w:=by
    intro j hj;rw [OO.1 hj];exact key
   refine⟨λht=>⟨λh0=>?_,λj hj=>all j (by rw [hq ht];exact hj)⟩,λ _ f' hf=>by cases hf;exact all⟩;rw [<-hq ht]at h0;cases h0
 | br k i p r ih ihr=>
  intro f L q top e a w H α hq V hS h hQ;cases f with
  | zero=>simp [plC]at H
  | succ f=>
   cases q with
   | nil=>simp [plC]at H
   | cons j q=>
    simp only [plC,OJ,Rb]at H;obtain⟨⟨⟨hji,J⟩,H⟩,hpr⟩:=H;subst hji;obtain⟨h,hr⟩:=h;have key:=alt (f:=f) (λhi G β h1=>qp ih hQ hi H G β h1) J (α j (by simp)) V hS h;have rest:=(ihr (f+1) L q false e a w hpr (λi hi=>α i (by simp [hi])) (λh=>by cases h) V hS hr hQ).2 rfl f rfl;have all:∀i∈j::q,wpOp T.P ops Q0 i (λa' w'=>(if iM T ops i=true then w'=w else kI ops i=true->S w')/\dP T.P ops (iM T ops) Q0 S f (L.setIfInBounds i true) a' w') a w:=by
     intro i hi;cases hi with
     | head=>exact key
     | tail _ hi=>exact rest i hi
    refine⟨λht=>⟨λh0=>?_,λi hi=>all i (by rw [hq ht];exact hi)⟩,λ _ f' hf=>by cases hf;exact all⟩;rw [<-hq ht]at h0;cases h0
end
inductive XE where
 | normal | exit (id:Nat) | ret
def XE.toExit:XE->Exit
 | .normal=> .normal | .exit id=> .exit id | .ret=> .ret
@[reducible] def LX:Code->Nat
 | .region id _ _=>id
 | .seq a _=>LX a
 | .cond _ a _=>LX a
 | .block _ c=>LX c
 | .loop c=>LX c
 | _=>1000000
@[reducible] def writes:Code->List Nat
 | .region _ ops _=>dsts (nJ ops)
 | .seq a b=>AH (writes a) (writes b)
 | .cond _ a b=>AH (writes a) (writes b)
 | .block _ c=>writes c
 | .loop c=>writes c
 | _=>[]
structure Fj where
 loops:Nat->Option (List (Nat×Kd))
 cuts:Nat->Option (List (Nat×Kd))
 late:Nat->Option (Bool×Pl)
@[reducible] def Fj.L (A:Fj) (n:Nat):Option (List (Nat×Kd)):=match A with
 | ⟨l,_,_⟩=>l n
@[reducible] def Fj.C (A:Fj) (n:Nat):Option (List (Nat×Kd)):=match A with
 | ⟨_,c,_⟩=>c n
@[reducible] def Fj.T (A:Fj) (n:Nat):Option (Bool×Pl):=match A with
 | ⟨_,_,t⟩=>t n
@[reducible] def C7 (L:List (Nat×Kd)):List Kd:=mapR NV L
@[reducible] def valsOf (e:Env):List (Nat×Kd)->Option (List SV)
 | []=>some []
 | (t,_)::L=>match look e t,valsOf e L with
  | some x,some xs=>some (x::xs)
  | _,_=>none
@[reducible] def IE:List (Nat×Kd)->List SV->Env
 | (t,_)::L,x::xs=>(t,x)::IE L xs
 | _,_=>[]
@[reducible] def keepE (ws:List Nat):Env->Env
 | []=>[]
 | (t,x)::e=>match hasR ws t with
  | true=>keepE ws e
  | false=>(t,x)::keepE ws e
def forceE:Env->(Env->Prop)->Prop
 | [],k=>k []
 | x::e,k=>forceE e λG=>k (x::G)
theorem qh:∀(e:Env) (k:Env->Prop),forceE e k=k e
 | [],_=>rfl
 | x::e,k=>by rw [forceE,qh e]
abbrev CurN:List Kd->Type
 | []=>World->Nat
 | k::L=>k.T->CurN L
def CurN.app:(L:List Kd)->CurN L->List SV->World->Nat
 | [],m,_,w=>m w
 | k::L,m,x::xs,w=>optN (k.un x) λt=>CurN.app L (m t) xs w
 | _::_,_,[],_=>0
def Ji (L:List (Nat×Kd))(R:Cur (C7 L))(e:Env)(w:World):Prop:=optK (valsOf e L) λxs=>Cur.app (C7 L) R xs w
def okCode (T:eC)(A:Fj)(N:Nat):Code->Bool
 | .region _ ops false=>okOps N ops.toList
 | .region id ops true=>okOps N ops.toList&&Region.noSelect ops&&(match A.T id with
  | some (late,p)=>plC T ops late p ops.size (Array.replicate ops.size false) (Region.ready .any ops (Array.replicate ops.size false)) true
  | none=>false)
 | .seq a b=>okCode T A N a&&okCode T A N b
 | .cond _ a b=>okCode T A N a&&okCode T A N b
 | .block _ c=>okCode T A N c
 | .loop c=>okCode T A N c
 | _=>true
def xK:XE->Prop->Prop->(Nat->Prop)->Prop
 | .normal,a,_,_=>a
 | .ret,_,b,_=>b
 | .exit i,_,_,k=>k i
def cutK {α:Type}:Option α->Prop->(α->Prop)->Prop
 | none,a,_=>a
 | some x,_,k=>k x
def condK:Option SV->Prop->Prop->Prop
 | some .tt,a,_=>a
 | some .ff,_,b=>b
 | some (.b x),a,b=>(x=true->a)/\(x=false->b)
 | _,_,_=>False
def planK:Option (Bool×Pl)->(Pl->Prop)->Prop
 | some (_,p),k=>k p
 | none,_=>False
def vc (T:eC)(A:Fj):Code->Env->World->(XE->Env->Sl)->Prop
 | .skip,e,w,Q=>Q .normal e w
 | .region _ ops false,e,w,Q=>vcOps T ops (λG w'=>Q .normal G w') (nJ ops) e w
 | .region id ops true,e,w,Q=>planK (A.T id) λp=>∃S:Sl,∀w1,w1=w.drew->S w1/\vcP T ops S (λG w'=>Q .normal G w') p e w1
 | .seq a b,e,w,Q=>cutK (A.C (LX b))
   (vc T A a e w λx G w'=>xK x (vc T A b G w' Q) (Q .ret G w') λi=>Q (.exit i) G w')
   (λL=>∃J:Cur (C7 L),(vc T A a e w λx G w'=>xK x (Ji L J G w') (Q .ret G w') λi=>Q (.exit i) G w')/\
    AllT (C7 L) λxs=>∀w',Cur.app (C7 L) J xs w'->forceE (AH (IE L xs) (keepE (writes a) e)) λV=>vc T A b V w' Q)
 | .cond c a b,e,w,Q=>condK (ev e c) (vc T A a e w Q) (vc T A b e w Q)
 | .block id c,e,w,Q=>vc T A c e w λx G w'=>xK x (Q .normal G w') (Q .ret G w') λi=>boolK (beqR i id) (Q .normal G w') (Q (.exit i) G w')
 | .loop c,e,w,Q=>optK (A.L (LX c)) λL=>∃(I:Cur (C7 L)) (m:CurN (C7 L)),Ji L I e w/\AllT (C7 L) λxs=>∀w',Cur.app (C7 L) I xs w'->
    forceE (AH (IE L xs) (keepE (writes c) e)) λV=>vc T A c V w' λx H w''=>
     xK x (Ji L I H w''/\optK (valsOf H L) λW=>CurN.app (C7 L) m W w''< CurN.app (C7 L) m xs w') (Q .ret H w'') λi=>Q (.exit i) H w''
 | .exit id,e,w,Q=>Q (.exit id) e w
 | .ret,e,w,Q=>Q .ret e w
 | _,_,_,_=>False
inductive RI where
 | tmp (slot:Nat) (k:Kd)
 | cell (slot t:Nat) (k:Kd)
 | agg (slot t:Nat)
@[reducible] def RI.kd:RI->Kd
 | .tmp _ k=>k
 | .cell _ _ k=>k
 | .agg _ _=> .v
@[reducible] def RI.rv:RI->ResultVar
 | .tmp s _=> .tmp s
 | .cell s t _=> .cell s t
 | .agg s t=> .cell s t
@[reducible] def nX (L:List RI):List Kd:=mapR RI.kd L
@[reducible] def Oi (k:Kd):Option SV->Option k.T
 | some x=>k.un x
 | none=>none
theorem Iy {k:Kd}{x:Option SV}{t:k.T}(h:Oi k x=some t):∃y,x=some y/\k.un y=some t:=by
 cases x with
 | none=>cases h
 | some y=>exact⟨y,rfl,h⟩
@[reducible] def adr? (T:eC) (t:Nat):Option SV->Option (Nat×Nat)
 | some (.a b off)=>match single (T.U t)with
  | true=>some (b,off)
  | false=>none
 | _=>none
def adrK:Option (Nat×Nat)->(Nat->Nat->Prop)->Prop
 | some (b,off),k=>k b off
 | none,_=>False
theorem E8 {T:eC}{t:Nat}{x:Option SV}{k:Nat->Nat->Prop}(h:adrK (adr? T t x) k):∃b off,x=some (.a b off)/\single (T.und t)=true/\k b off:=by
 unfold adr? at h;split at h
 ·split at h
  ·exact⟨_,_,rfl,by assumption,h⟩
  ·exact h.elim
 ·exact h.elim
inductive AR where
 | agg (b off:Nat) (ks:List Kd) | list (b off n:Nat) | bad
@[reducible] def aggR (T:eC) (t:Nat):Option SV->AR
 | some (.a b off)=>match yO (T.U t),cellK T t,T.I t with
  | true,some ks,some (_,n,_)=>(match Nat.beq (CM ks) n with
   | true=> .agg b off ks
   | false=> .bad)
  | true,none,some (_,n,_)=> .list b off n
  | _,_,_=> .bad
 | _=> .bad
def runAR:AR->World->(Value->Prop)->Prop
 | .agg b off ks,w,k=>ExL ks λxs=>CellsAt w b off xs/\k (.agg (SV.aQ xs).toArray)
 | .list b off n,w,k=>∃cs:List Value,cs.length=n/\(∀j,j< n->w.cell? ⟨b,off+j,none⟩=cs[j]?)/\k (.agg cs.toArray)
 | .bad,_,_=>False
def finR (T:eC):(L:List RI)->Cur (nX L)->Env->Sl
 | [],R,_,w=>R w
 | .tmp s k::L,R,e,w=>optK (Oi k (look e s)) λt=>finR T L (R t) e w
 | .cell s t k::L,R,e,w=>adrK (adr? T t (look e s)) λb off=>∃x:k.T,w.cell? ⟨b,off,none⟩=some (k.sv x).val/\finR T L (R x) e w
 | .agg s t::L,R,e,w=>runAR (aggR T t (look e s)) w λv=>finR T L (R v) e w
def fin (T:eC)(L:List RI)(R:Cur (nX L)):XE->Env->Sl
 | .exit _,_,_=>False
 | .normal,e,w=>finR T L R e w
 | .ret,e,w=>finR T L R e w
attribute [go_sem] CurN
def Kd.dec:(k:Kd)->Value->k.T
 | .i,.int _ n=>n
 | .i,_=>0
 | .c,.int _ n=>UInt8.ofNat n.toNat
 | .c,_=>0
 | .w,.int _ n=>UInt32.ofNat n.toNat
 | .w,_=>0
 | .s,.string str=>str.data.toList
 | .s,_=>[]
 | .b,.bool G=>G
 | .b,_=>false
 | .v,x=>x
theorem Kd.Ll (k:Kd)(t:k.T):k.dec (k.sv t).val=t:=by
 cases k
 ·rfl
 ·show UInt8.ofNat ((t.toNat:Int)).toNat=t;simp
 ·show UInt32.ofNat ((t.toNat:Int)).toNat=t;simp
 ·show(ai t).data.toList=t;simp [ai]
 ·rfl
 ·rfl
theorem Kd.Iq (k:Kd)(t:k.T):k.un (k.sv t)=some t:=by cases k<;>rfl
def Typed:List Kd->List SV->Prop
 | [],[]=>True
 | k::L,x::xs=>(∃t:k.T,x=k.sv t)/\Typed L xs
 | _,_=>False
theorem AllT.get:∀{L:List Kd} {K:List SV->Prop},AllT L K->∀{xs:List SV},Typed L xs->K xs
 | [],K,h,[],_=>h
 | [],K,h,_::_,G=>G.elim
 | k::L,K,h,[],G=>G.elim
 | k::L,K,h,x::xs,G=>by
  obtain⟨⟨t,H⟩,G⟩:=G;subst H;exact AllT.get (h t) G
theorem canon:∀{L:List Kd} {R:Cur L} {xs:List SV} {w:World},Cur.app L R xs w->
  ∃zs,Typed L zs/\SV.aQ zs=SV.aQ xs/\Cur.app L R zs w/\∀(m:CurN L) (w':World),CurN.app L m zs w'=CurN.app L m xs w'
 | [],R,[],w,h=>⟨[],trivial,rfl,h,λ _ _=>rfl⟩
 | [],R,_::_,w,h=>h.elim
 | k::L,R,[],w,h=>h.elim
 | k::L,R,x::xs,w,h=>by
  rw [Cur.app]at h;obtain⟨t,G,h⟩:=bZ h
  ·obtain⟨zs,H,h2,J,h4⟩:=canon h;refine⟨k.sv t::zs,⟨⟨t,rfl⟩,H⟩,by simp [SV.aQ,h2,Kd.Ca G],?_,λm w'=>?_⟩
   ·rw [Cur.app,Kd.Iq];exact J
   ·rw [CurN.app,CurN.app,Kd.Iq,G];exact h4 _ _
def Reads (a:Act):List (Nat×Kd)->List SV->Prop
 | [],[]=>True
 | (t,_)::L,x::xs=>a.tmps.getD t undef=x.val/\Reads a L xs
 | _,_=>False
theorem Reads.sD {N:Nat}{e:Env}{a:Act}(G:aE N e a):∀{L:List (Nat×Kd)} {xs:List SV},valsOf e L=some xs->Reads a L xs
 | [],xs,h=>by cases h;trivial
 | (t,k)::L,xs,h=>by
  unfold valsOf at h;split at h
  ·rename_i x J H h2;cases h;exact⟨G.2 _ _ H,Reads.sD G h2⟩
  ·cases h
theorem Reads.congr {a:Act}:∀{L:List (Nat×Kd)} {xs G:List SV},Reads a L xs->SV.aQ G=SV.aQ xs->Reads a L G
 | [],[],[],_,_=>trivial
 | [],[],_::_,_,h=>by simp [SV.aQ]at h
 | _::_,[],_,h,_=>h.elim
 | [],_::_,_,h,_=>h.elim
 | (t,k)::L,x::xs,[],_,h=>by simp [SV.aQ]at h
 | (t,k)::L,x::xs,y::G,⟨H,h2⟩,h=>by
  simp only [SV.aQ,PC]at h;exact⟨H.trans h.1.symm,Reads.congr h2 h.2⟩
theorem aE.zip {N:Nat}{e:Env}{a:Act}(G:aE N e a):∀{L:List (Nat×Kd)} {xs:List SV},Reads a L xs->aE N (IE L xs++e) a
 | [],[],_=>G
 | [],_::_,h=>h.elim
 | _::_,[],h=>h.elim
 | (t,k)::L,x::xs,⟨J,h2⟩=>by
  have V:=aE.zip G h2;refine⟨G.1,λu y H=>?_⟩;simp only [IE,PI,look]at H;split at H
  ·rename_i heq;have :=kP heq;subst this;cases H;exact J
  ·exact V.2 u y H
theorem qn {ws:List Nat}{t:Nat}:∀{e:Env} {x:SV},look (keepE ws e) t=some x->t∉ws/\look e t=some x
 | [],x,h=>by simp [keepE,look]at h
 | (u,y)::e,x,h=>by
  unfold keepE at h;split at h
  ·rename_i hu;have :=qn (e:=e) h;refine⟨this.1,?_⟩;simp only [look];rw [sG]at hu;have G:u∈ws:=by simpa using hu
   have H:u≠t:=λhe=>this.1 (he▸G)
   split
   ·exact absurd (kP (by assumption)) H
   ·exact this.2
  ·rename_i hu;rw [sG]at hu;simp only [look]at h|-;split at h
   ·rename_i heq;have :=kP heq;subst this;exact⟨by simpa using hu,h⟩
   ·exact qn (e:=e) h
theorem aE.wq {N:Nat}{e:Env}{a a':Act}{ws:List Nat}(G:aE N e a)(H:dL ws a a')(J:a'.tmps.size=N):aE N (keepE ws e) a':=
 ⟨J,λt x V=>by obtain⟨W,h2⟩:=qn V;rw [H t W];exact G.2 t x h2⟩
def decs (a:Act):List (Nat×Kd)->List SV
 | []=>[]
 | (t,k)::L=>k.sv (k.dec (a.tmps.getD t undef))::decs a L
theorem ye {a:Act}:∀{L:List (Nat×Kd)} {xs:List SV},Typed (C7 L) xs->Reads a L xs->decs a L=xs
 | [],[],_,_=>rfl
 | [],_::_,_,h=>h.elim
 | _::_,[],_,h=>h.elim
 | (t,k)::L,x::xs,⟨⟨y,G⟩,H⟩,⟨J,h2⟩=>by
  simp only [decs];rw [ye H h2,J,G,Kd.Ll]
theorem Ig {T:eC}{A:Fj}{N:Nat}:∀(c:Code) (e:Env) (a:Act) (w:World) (Q:XE->Env->Sl) (Q':Exit->Act->Sl),
  aE N e a->okCode T A N c=true->vc T A c e w Q->
  (∀x W a' w',Q x W w'->aE N W a'->a'.defers=a.defers->dL (writes c) a a'->Q' x.toExit a' w')->c.wp T.P Q' a w:=by
 intro c
 induction c with
 | skip=>intro e a w Q Q' G _ h V;exact wp_skip (V .normal e a w h G rfl (dL.refl _ _))
 | exit id=>intro e a w Q Q' G _ h V;exact wp_exit (V (.exit id) e a w h G rfl (dL.refl _ _))
 | ret=>intro e a w Q Q' G _ h V;exact wp_ret (V .ret e a w h G rfl (dL.refl _ _))
 | region id ops draw=>
  intro e a w Q Q' G H h V;cases draw with
  | true=>
   unfold vc at h;simp only [okCode,OJ]at H;obtain⟨⟨H,ε⟩,ζ⟩:=H;cases hT:A.T id with
   | none=>rw [hT]at h;exact h.elim
   | some lp=>
    obtain⟨late,p⟩:=lp;rw [hT]at h ζ;obtain⟨S,h⟩:=h;obtain⟨hS,h⟩:=h _ rfl;have Z:(Code.region id ops true).wp T.P (λx a' w'=>x= .normal/\Q' .normal a' w') a w:=by
     cases late with
     | true=>exact wp_region_any T.mixed (uN _ _ _ _ ((FF ε H (λc a w hq=>by cases hq.1) p _ _ _ true e a _ ζ (λ _ h=>h) (λ _=>rfl) G (λ _ _ _ _ _=>hS) h λW a' w' hk α hd hs=>⟨rfl,V .normal W a' w' hk α hd hs⟩).1 rfl))
     | false=>exact wp_region_held (S:=S) T.mixed ((FZ ε H (λc a w hq=>by cases hq.1) p _ _ _ true e a _ ζ (λ _=>rfl) G hS h λW a' w' hk α hd hs=>⟨rfl,V .normal W a' w' hk α hd hs⟩).1 rfl)
    refine wp_mono Z λx a' w' hx=>?_
    obtain⟨rfl,hx⟩:=hx;exact hx
  | false=>
   unfold vc at h;exact wp_region_list (pX _ _ _ _ G H h λW a' w' hk α hd hs=>V .normal W a' w' hk α hd hs)
 | cond c x y β γ=>
  intro e a w Q Q' G H h V;simp only [okCode,OJ]at H;have gx:vc T A x e w Q->x.wp T.P Q' a w:=λh=>β e a w Q Q' G H.1 h λz W a' w' hz Z h2 h3=>V z W a' w' hz Z h2 (h3.mono λt ht=>by simp [writes,iJ,ht])
  have gy:vc T A y e w Q->y.wp T.P Q' a w:=λh=>γ e a w Q Q' G H.2 h λz W a' w' hz Z h2 h3=>V z W a' w' hz Z h2 (h3.mono λt ht=>by simp [writes,iJ,ht])
  unfold vc condK at h;split at h
  ·rename_i hc;exact wp_cond_true (aH G hc) (gx h)
  ·rename_i hc;exact wp_cond_false (aH G hc) (gy h)
  ·rename_i b hc;exact wp_cond_split (t:=b) (aH G hc) (λht=>gx (h.1 ht)) (λhf=>gy (h.2 hf))
  ·exact h.elim
 | block id c ih=>
  intro e a w Q Q' G H h V;refine wp_block (ih e a w _ _ G H h λx W a' w' hx Z h2 h3=>?_);cases x with
  | normal=>exact V .normal W a' w' hx Z h2 h3
  | ret=>exact V .ret W a' w' hx Z h2 h3
  | exit i=>
   simp only [XE.toExit,Exit.inBlock];simp only [xK,Kl]at hx;cases hi:Nat.beq i id with
   | true=>rw [hi]at hx;rw [Pj (kP hi)];exact V .normal W a' w' hx Z h2 h3
   | false=>
    rw [hi]at hx;rw [O1 (λe=>by rw [e,Nat.beq_refl]at hi;cases hi)];exact V (.exit i) W a' w' hx Z h2 h3
 | seq x y β γ=>
  intro e a w Q Q' G H h V;simp only [okCode,OJ]at H;have sx:∀t,t∈writes x->t∈writes (x.seq y):=λt ht=>by simp [writes,iJ,ht]
  have sy:∀t,t∈writes y->t∈writes (x.seq y):=λt ht=>by simp [writes,iJ,ht]
  unfold vc at h;cases hL:A.C (LX y)with
  | none=>
   rw [hL]at h;refine wp_seq (β e a w _ _ G H.1 h λz W a' w' hz Z h2 h3=>?_);cases z with
   | normal=>exact γ W a' w' Q Q' Z H.2 hz λz' e2 a2 w2 η k1 k2 k3=>V z' e2 a2 w2 η k1 (k2.trans h2) ((h3.mono sx).trans (k3.mono sy))
   | ret=>exact V .ret W a' w' hz Z h2 (h3.mono sx)
   | exit i=>exact V (.exit i) W a' w' hz Z h2 (h3.mono sx)
  | some L=>
   rw [hL]at h;obtain⟨J,hx,hy⟩:=h;refine wp_seq (β e a w _ _ G H.1 hx λz W a' w' hz Z h2 h3=>?_);cases z with
   | normal=>
    obtain⟨xs,θ,hz⟩:=bZ hz
    ·obtain⟨zs,t1,t2,t3,_⟩:=canon hz;have δ:=(Reads.sD Z θ).congr t2;have hy:=hy.get t1 w' t3;rw [qh,iJ]at hy;exact γ _ a' w' Q Q' ((G.wq h3 Z.1).zip δ) H.2 hy λz' e2 a2 w2 η k1 k2 k3=>V z' e2 a2 w2 η k1 (k2.trans h2) ((h3.mono sx).trans (k3.mono sy))
   | ret=>exact V .ret W a' w' hz Z h2 (h3.mono sx)
   | exit i=>exact V (.exit i) W a' w' hz Z h2 (h3.mono sx)
 | loop c ih=>
  intro e a w Q Q' G H h V;unfold vc at h;obtain⟨L,hL,h⟩:=bZ h
  ·obtain⟨I,m,h0,hr⟩:=h;refine wp_loop (λa' w'=>∃xs,Typed (C7 L) xs/\Reads a' L xs/\Cur.app (C7 L) I xs w'/\a'.tmps.size=N/\a'.defers=a.defers/\dL (writes c) a a') (λa' w'=>CurN.app (C7 L) m (decs a' L) w') ?_ ?_
   ·obtain⟨xs,θ,h0⟩:=bZ h0
    ·obtain⟨zs,t1,t2,t3,_⟩:=canon h0;exact⟨zs,t1,(Reads.sD G θ).congr t2,t3,G.1,rfl,dL.refl _ _⟩
   ·rintro a1 w1 ⟨xs,t1,t2,t3,hN,hd,hs⟩
    have hr:=hr.get t1 w1 t3;rw [qh,iJ]at hr;refine ih _ a1 w1 _ _ ((G.wq hs hN).zip t2) H hr λz W a' w' hz Z h2 h3=>?_
    cases z with
    | normal=>
     obtain⟨ι,κ⟩:=hz;obtain⟨ys,μ,ι⟩:=bZ ι
     ·rw [μ]at κ;obtain⟨zs,u1,u2,u3,u4⟩:=canon ι;have δ:=(Reads.sD Z μ).congr u2;refine⟨⟨zs,u1,δ,u3,Z.1,h2.trans hd,hs.trans h3⟩,?_⟩;rw [ye u1 δ,ye t1 t2,u4];exact κ
    | ret=>exact V .ret W a' w' hz Z (h2.trans hd) (hs.trans h3)
    | exit i=>exact V (.exit i) W a' w' hz Z (h2.trans hd) (hs.trans h3)
 | rangeFunc=>intro e a w Q Q' G _ h V;exact h.elim
 | scope=>intro e a w Q Q' G _ h V;exact h.elim
 | label=>intro e a w Q Q' G _ h V;exact h.elim
 | goto=>intro e a w Q Q' G _ h V;exact h.elim
 | refuse=>intro e a w Q Q' G _ h V;exact h.elim
theorem CF:∀{L:List Kd} {R:Cur L} {xs:List SV} {w:World} (acc G:List SV),Cur.app L R xs w->SV.aQ G=SV.aQ acc->
  lS L R G (.returned (valOf (acc++xs))) w
 | [],R,[],w,acc,G,h,ha=>by
  refine⟨?_,h⟩;rw [Po,kf ha,<-kf rfl]
 | [],R,_::_,w,acc,G,h,ha=>h.elim
 | k::L,R,[],w,acc,G,h,ha=>h.elim
 | k::L,R,x::xs,w,acc,G,h,ha=>by
  rw [Cur.app]at h;obtain⟨t,H,h⟩:=bZ h
  ·refine⟨t,?_⟩;have app:∀(p q:List SV),SV.aQ (p++q)=SV.aQ p++SV.aQ q:=by
    intro p q;induction p with
    | nil=>rfl
    | cons y p J=>simp [SV.aQ,J]
   have :=CF (acc++[x]) (G++[k.sv t]) h (by rw [app,app,ha];simp [SV.aQ,Kd.Ca H]);simpa using this
@[reducible] def aj:Nat->List SV->Env
 | _,[]=>[]
 | n,x::xs=>(n,x)::aj (n+1) xs
theorem wT:∀{xs:List SV} {n t:Nat} {x:SV},look (aj n xs) t=some x->∃j,t=n+j/\xs[j]?=some x
 | [],n,t,x,h=>by simp [aj,look]at h
 | y::G,n,t,x,h=>by
  simp only [aj,look]at h;split at h
  ·rename_i heq;have :=kP heq;subst this;cases h;exact⟨0,rfl,rfl⟩
  ·obtain⟨j,H,h2⟩:=wT h;exact⟨j+1,by omega,by simpa using h2⟩
theorem AX:∀{l:List SV} {j:Nat} {z:SV},l[j]?=some z->(SV.aQ l)[j]?=some z.val
 | [],j,z,h=>by simp at h
 | p::l,0,z,h=>by simp at h;subst h;rfl
 | p::l,j+1,z,h=>by simp at h;simpa [SV.aQ]using AX h
theorem zZ:∀(l:List SV),(SV.aQ l).length=l.length
 | []=>rfl
 | _::l=>by simp [SV.aQ,zZ l]
theorem pB {T:eC}{N:Nat}{e:Env}{a:Act}{w:World}(G:aE N e a){g:ResultVar->Sem Value}
  (J:∀t,g (.tmp t)=pure (a.tmps.getD t undef)) (H:∀b t,g (.cell b t)=(do loadVar t (<-asAddr (a.tmps.getD b undef)))):
  ∀{L:List RI} {R:Cur (nX L)},finR T L R e w->∃xs,Cur.app (nX L) R xs w/\(List.mapM g (L.map RI.rv)).run T.P w= .ok (SV.aQ xs) w
 | [],R,h=>⟨[],h,by simp [SV.aQ]⟩
 | .tmp s k::L,R,h=>by
  rw [finR]at h;obtain⟨t,ht,h⟩:=bZ h
  ·obtain⟨x,Z,β⟩:=Iy ht;obtain⟨xs,h1,h2⟩:=pB G J H h;refine⟨x::xs,?_,?_⟩
   ·show Cur.app (k::nX L) R (x::xs) w;rw [Cur.app,β];exact h1
   ·simp only [Pk,List.mapM_cons,RI.rv,J,O3,O5,ON,h2,SV.aQ,G.2 _ _ Z]
 | .cell s t k::L,R,h=>by
  rw [finR]at h;obtain⟨b,off,Z,W,h⟩:=E8 h
  ·obtain⟨x,hc,h⟩:=h;obtain⟨xs,h1,h2⟩:=pB G J H h;refine⟨k.sv x::xs,?_,?_⟩
   ·show Cur.app (k::nX L) R (k.sv x::xs) w;rw [Cur.app,Kd.Iq];exact h1
   ·have V:=ql W hc;simp only [Instr.loadAt,Instr.sureAddr,O3,O5,ON]at V;have hv:=G.2 _ _ Z;simp only [Pk,List.mapM_cons,RI.rv,H,O3,O5,ON,hv,SV.val,asAddr,V,h2,SV.aQ]
 | .agg s t::L,R,h=>by
  rw [finR]at h;unfold aggR at h;split at h
  ·rename_i b off Z;have key:yO (T.und t)=true->∀{n bb:Nat} {z:Value} {cs:List Value},T.inf t=some (z,n,bb)->cs.length=n->(∀j,j< n->w.cell? ⟨b,off+j,none⟩=cs[j]?)->finR T L (R (.agg cs.toArray)) e w->
     ∃xs,Cur.app (nX (.agg s t::L)) R xs w/\(List.mapM g ((.agg s t::L).map RI.rv)).run T.P w= .ok (SV.aQ xs) w:=by
    intro W n bb z cs hi V hc h;obtain⟨xs,h1,h2⟩:=pB G J H h;refine⟨.v (.agg cs.toArray)::xs,h1,?_⟩;have α:=jH (jI W w) hi V hc;simp only [Instr.loadAt,Instr.sureAddr,O3,O5,ON]at α;have hv:=G.2 _ _ Z;simp only [Pk,List.mapM_cons,RI.rv,H,O3,O5,ON,hv,SV.val,asAddr,α,h2,SV.aQ]
   split at h
   ·rename_i ks z n bb W hk hi;split at h
    ·rename_i hn;have hn:=kP hn;rw [mB]at hn;obtain⟨ys,V,hc,h⟩:=ExL.get h;exact key W hi (by rw [gP,V,hn]) (λj hj=>hc.get j (by omega)) h
    ·exact h.elim
   ·rename_i z n bb W hk hi;obtain⟨cs,V,hc,h⟩:=h;exact key W hi V hc h
   ·exact h.elim
  ·exact h.elim
theorem rf {T:eC}{N:Nat}{e:Env}{a:Act}{fn:Func}{L:List RI}{R:Cur (nX L)}{w:World}(G:aE N e a)(hr:fn.results=(L.map RI.rv).toArray)(h:finR T L R e w):
  ∃xs,Cur.app (nX L) R xs w/\(results fn a.tmps).run T.P w= .ok (valOf xs) w:=by
 unfold results;rw [hr,List.mapM_toArray];simp only [O3,Sem.run_map];obtain⟨xs,H,h2⟩:=pB G (g:=λ| ResultVar.tmp t=>pure (a.tmps.getD t undef) | .cell b t=>do loadVar t (<-asAddr (a.tmps.getD b undef))) (λ _=>rfl) (λ _ _=>rfl) h;refine⟨xs,H,?_⟩;have J:(List.mapM (m:=Sem) (λx=>match x with | ResultVar.tmp t=>pure (a.tmps.getD t undef) | .cell b t=>do let __do_lift<-asAddr (a.tmps.getD b undef);loadVar t __do_lift) (L.map RI.rv)).run T.P w= .ok (SV.aQ xs) w:=h2
 erw [J]
 simp only [ON,O5]
 congr 1
 match xs with
 | []=>rfl
 | [x]=>rfl
 | x::y::V=>rfl
theorem rB {T:eC}(A:Fj){f:Nat}{fn:Func}{c:Code}{N:Nat}{args:List SV}(L:List RI){R:Cur (nX L)}{w:World}
  (Z:T.P.funcs[f]?=some fn) (hb:fn.body=some c) (hn:fn.ntmps=N) (hr:fn.results=(L.map RI.rv).toArray)
  (G:(okCode T A N c&&decide (args.length<=N))=true) (h:vc T A c (aj 0 args) w (fin T L R)):Calls T.P f (SV.aQ args).toArray w (an (nX L) R):=by
 simp only [OJ,OW]at G;refine calls_of_wp Z hb (Ig c _ _ w _ _ ⟨?_,?_⟩ G.1 h ?_)
 ·have :=G.2;simp [zZ,hn];omega
 ·intro t x H;obtain⟨j,hj,H⟩:=wT H;have J:=AX H;have W:j< (SV.aQ args).length:=by
   rcases Qn j (SV.aQ args).length with h | h
   ·exact h
   ·rw [List.getElem?_eq_none h]at J;cases J
  have:t=j:=by omega
  subst this;simp only [Array.getD_eq_getD_getElem?];rw [Array.getElem?_append_left (by simpa using W),Ri,J];rfl
 ·intro x e' a' w' H V hd hs;cases x with
  | exit i=>exact H.elim
  | normal=>
   obtain⟨xs,J,h2⟩:=rf V hr H;exact⟨hd,_,h2,CF [] [] J rfl⟩
  | ret=>
   obtain⟨xs,J,h2⟩:=rf V hr H;exact⟨hd,_,h2,CF [] [] J rfl⟩
set_option linter.unusedVariables false
set_option linter.constructorNameAsVariable false
theorem zq (a b c d):type_of% (@bindK.eq_1 a b c d):=rfl
theorem zr (a b c):type_of% (@bindK.eq_2 a b c):=rfl
theorem AY (a b c):type_of% (@optK.eq_1 a b c):=rfl
theorem zU (a b c):type_of% (@optN.eq_1 a b c):=rfl
theorem Ac (a b):type_of% (@optN.eq_2 a b):=rfl
theorem xw (a b):type_of% (@boolK.eq_1 a b):=rfl
theorem xX (a b):type_of% (@boolK.eq_2 a b):=rfl
theorem vC (a b c):type_of% (@guardG.eq_1 a b c):=rfl
theorem vB (a b c):type_of% (@guardG.eq_2 a b c):=rfl
theorem wv (a b c d e):type_of% (@guardG.eq_3 a b c d e):=rfl
theorem wg (a b c d e):type_of% (@guardG.eq_4 a b c d e):=rfl
theorem xE (a b c d e):type_of% (@vcOps.eq_1 a b c d e):=rfl
theorem yF (a b c d e f g):type_of% (@vcOps.eq_2 a b c d e f g):=rfl
theorem rE (a b c d e):type_of% (@runLoadH.eq_1 a b c d e):=rfl
theorem rJ (a b c d e):type_of% (@runLoadH.eq_2 a b c d e):=rfl
theorem r7 (a b c d e):type_of% (@runLoadH.eq_3 a b c d e):=rfl
theorem qX (a b c d e f):type_of% (@qw.eq_1 a b c d e f):=rfl
theorem A8 (a b c d e):type_of% (@runH.eq_1 a b c d e):=rfl
theorem BB (a b c d):type_of% (@runH.eq_2 a b c d):=rfl
theorem tv (a b c d e):type_of% (@sH.eq_1 a b c d e):=rfl
theorem v8 (a b c d e):type_of% (@nS.eq_1 a b c d e):=rfl
theorem BI (a b):type_of% (@runK.eq_1 a b):=rfl
theorem Ai (a b):type_of% (@runK.eq_2 a b):=rfl
theorem Ak (a b):type_of% (@runK.eq_3 a b):=rfl
theorem zA (a b):type_of% (@pP.eq_1 a b):=rfl
theorem zj (a b):type_of% (@pP.eq_2 a b):=rfl
theorem zG (a b):type_of% (@pP.eq_3 a b):=rfl
theorem C0 (a b c d e f):type_of% (@vcP.eq_1 a b c d e f):=rfl
theorem C8 (a b c d e f g h):type_of% (@vcP.eq_2 a b c d e f g h):=rfl
theorem CS (a b c d e f g h i):type_of% (@vcP.eq_3 a b c d e f g h i):=rfl
theorem CX (a b c d e f g h i j):type_of% (@vcP.eq_4 a b c d e f g h i j):=rfl
theorem yz (a b c):type_of% (@planK.eq_1 a b c):=rfl
theorem FH (a b c):type_of% (@xK.eq_1 a b c):=rfl
theorem FN (a b c):type_of% (@xK.eq_2 a b c):=rfl
theorem FJ (a b c d):type_of% (@xK.eq_3 a b c d):=rfl
theorem A9 (a b c):type_of% (@cutK.eq_1 a b c):=rfl
theorem Bh (a b c d):type_of% (@cutK.eq_2 a b c d):=rfl
theorem xy (a b):type_of% (@condK.eq_1 a b):=rfl
theorem zc (a b):type_of% (@condK.eq_2 a b):=rfl
theorem y4 (a b c):type_of% (@condK.eq_3 a b c):=rfl
theorem Ge (a b c d e):type_of% (@vc.eq_1 a b c d e):=rfl
theorem Ft (a b c d e f g):type_of% (@vc.eq_2 a b c d e f g):=rfl
theorem Fz (a b c d e f g):type_of% (@vc.eq_3 a b c d e f g):=rfl
theorem Gc (a b c d e f g):type_of% (@vc.eq_4 a b c d e f g):=rfl
theorem Fs (a b c d e f g h):type_of% (@vc.eq_5 a b c d e f g h):=rfl
theorem Fl (a b c d e f g):type_of% (@vc.eq_6 a b c d e f g):=rfl
theorem E5 (a b c d e f):type_of% (@vc.eq_7 a b c d e f):=rfl
theorem F6 (a b c d e f):type_of% (@vc.eq_8 a b c d e f):=rfl
theorem FT (a b c d e):type_of% (@vc.eq_9 a b c d e):=rfl
theorem vX (a):type_of% (@forceE.eq_1 a):=rfl
theorem vA (a b c):type_of% (@forceE.eq_2 a b c):=rfl
theorem B1 (a b c d):type_of% (@Ji.eq_1 a b c d):=rfl
theorem AA (a b c):type_of% (@adrK.eq_1 a b c):=rfl
theorem yl (a b c d e):type_of% (@runAR.eq_1 a b c d e):=rfl
theorem yy (a b c d e):type_of% (@runAR.eq_2 a b c d e):=rfl
theorem AQ (a b c d):type_of% (@finR.eq_1 a b c d):=rfl
theorem Aq (a b c d e f g):type_of% (@finR.eq_2 a b c d e f g):=rfl
theorem BQ (a b c d e f g h):type_of% (@finR.eq_3 a b c d e f g h):=rfl
theorem z7 (a b c d e f g):type_of% (@finR.eq_4 a b c d e f g):=rfl
theorem Dr (a b c d e):type_of% (@fin.eq_2 a b c d e):=rfl
theorem Dw (a b c d e):type_of% (@fin.eq_3 a b c d e):=rfl
theorem sd (a b c):type_of% (@CurN.app.eq_1 a b c):=rfl
theorem rQ (a b c d e f):type_of% (@CurN.app.eq_2 a b c d e f):=rfl
theorem sg (a b c d):type_of% (@CurN.app.eq_3 a b c d):=rfl
theorem AL (a b c d e):type_of% (@zS.eq_1 a b c d e):=rfl
theorem xR (a b c d):type_of% (@runOR.eq_1 a b c d):=rfl
theorem xJ (a b c d e):type_of% (@runOR.eq_2 a b c d e):=rfl
theorem zB (a b c d):type_of% (@runOR.eq_3 a b c d):=rfl
theorem zy (a b c d e f):type_of% (@runOR.eq_4 a b c d e f):=rfl
theorem zd (a b c d e):type_of% (@runOR.eq_5 a b c d e):=rfl
theorem yP (a b c d e f):type_of% (@runOR.eq_6 a b c d e f):=rfl
theorem zf (a b c d e):type_of% (@runOR.eq_7 a b c d e):=rfl
theorem yh (a b c d e):type_of% (@runOR.eq_8 a b c d e):=rfl
theorem yG (a b c):type_of% (@runOR.eq_9 a b c):=rfl
theorem vP (a b c d e f g):type_of% (@runOR.eq_10 a b c d e f g):=rfl
theorem vz (a b c d e f g):type_of% (@runOR.eq_11 a b c d e f g):=rfl
theorem vu (a b c d e f):type_of% (@runOR.eq_12 a b c d e f):=rfl
theorem vG (a b c d e f):type_of% (@runOR.eq_13 a b c d e f):=rfl
theorem vZ (a b c d e f g h i):type_of% (@runOR.eq_14 a b c d e f g h i):=rfl
theorem vU (a b c d e):type_of% (@runOR.eq_15 a b c d e):=rfl
theorem vM (a b c d e):type_of% (@runOR.eq_16 a b c d e):=rfl
theorem wz (a b c d e):type_of% (@runOR.eq_17 a b c d e):=rfl
theorem vT (a b c d e f g):type_of% (@runOR.eq_18 a b c d e f g):=rfl
theorem vW (a b c d e f g h):type_of% (@runOR.eq_19 a b c d e f g h):=rfl
theorem vy (a b c d e):type_of% (@runOR.eq_20 a b c d e):=rfl
theorem vK (a b c d e f):type_of% (@runOR.eq_21 a b c d e f):=rfl
theorem vk (a b c d e f):type_of% (@runOR.eq_22 a b c d e f):=rfl
theorem vh (a b c d):type_of% (@y6.eq_1 a b c d):=rfl
theorem za (a b):type_of% (@runPR.eq_1 a b):=rfl
theorem yJ (a b c):type_of% (@runPR.eq_2 a b c):=rfl
theorem xZ (a b c):type_of% (@runPR.eq_3 a b c):=rfl
theorem xO (a b):type_of% (@runPR.eq_4 a b):=rfl
theorem yQ (a b):type_of% (@runPR.eq_5 a b):=rfl
theorem xD (a b):type_of% (@runPR.eq_6 a b):=rfl
theorem xW (a b):type_of% (@runPR.eq_7 a b):=rfl
theorem zo (a b c):type_of% (@runPR.eq_8 a b c):=rfl
theorem yH (a b c d):type_of% (@runPR.eq_9 a b c d):=rfl
theorem wh (a b c d e):type_of% (@runPR.eq_10 a b c d e):=rfl
theorem vI (a b):type_of% (@runPR.eq_11 a b):=rfl
theorem vL (a b c d):type_of% (@runPR.eq_12 a b c d):=rfl
theorem vE (a b):type_of% (@runPR.eq_13 a b):=rfl
theorem sj (a b c d e f):type_of% (@ur.eq_1 a b c d e f):=rfl
theorem tr (a b c d e):type_of% (@runLoad.eq_1 a b c d e):=rfl
theorem ug (a b c d e):type_of% (@runLoad.eq_2 a b c d e):=rfl
theorem uK (a b c d e):type_of% (@runLoad.eq_3 a b c d e):=rfl
theorem qm (a b c d e f g):type_of% (@qM.eq_1 a b c d e f g):=rfl
theorem rL (a b c d e):type_of% (@runStore.eq_1 a b c d e):=rfl
theorem r8 (a b c d e f):type_of% (@runStore.eq_2 a b c d e f):=rfl
theorem rF (a b c d e f):type_of% (@runStore.eq_3 a b c d e f):=rfl
theorem rW (a b c d e f g):type_of% (@tY.eq_1 a b c d e f g):=rfl
theorem Dg (a b):type_of% (@NG.eq_1 a b):=rfl
theorem De (a):type_of% (@ExL.eq_1 a):=rfl
theorem Cg (a b c):type_of% (@ExL.eq_2 a b c):=rfl
theorem Co (a b):type_of% (@okC.eq_1 a b):=rfl
theorem Di (a b):type_of% (@okC.eq_2 a b):=rfl
theorem Ds (a b):type_of% (@okC.eq_3 a b):=rfl
theorem CR (a b):type_of% (@okC.eq_4 a b):=rfl
theorem CC (a b):type_of% (@okC.eq_5 a b):=rfl
theorem Dk (a b):type_of% (@okC.eq_6 a b):=rfl
theorem Dv (a):type_of% (@okC.eq_7 a):=rfl
theorem C3 (a):type_of% (@okC.eq_8 a):=rfl
theorem C9 (a b c):type_of% (@okC.eq_9 a b c):=rfl
theorem Bg (a b):type_of% (@okC.eq_10 a b):=rfl
theorem Ax (a b):type_of% (@okC.eq_11 a b):=rfl
theorem Af (a b):type_of% (@okC.eq_12 a b):=rfl
theorem xT (a b):type_of% (@oneOk.eq_1 a b):=rfl
theorem yx (a b):type_of% (@oneOk.eq_2 a b):=rfl
theorem yB (a b):type_of% (@oneOk.eq_3 a b):=rfl
theorem yC (a b):type_of% (@oneOk.eq_4 a b):=rfl
theorem zb (a b):type_of% (@oneOk.eq_5 a b):=rfl
theorem yq (a b):type_of% (@oneOk.eq_6 a b):=rfl
theorem zE (a):type_of% (@oneOk.eq_7 a):=rfl
theorem zp (a):type_of% (@oneOk.eq_8 a):=rfl
theorem yL (a b c):type_of% (@oneOk.eq_9 a b c):=rfl
theorem vJ (a b):type_of% (@oneOk.eq_10 a b):=rfl
theorem wj (a):type_of% (@okAllC.eq_1 a):=rfl
theorem vS (a b c d):type_of% (@okAllC.eq_2 a b c d):=rfl
theorem vN (a b):type_of% (@forceL.eq_1 a b):=rfl
theorem vY (a b c d):type_of% (@forceL.eq_2 a b c d):=rfl
theorem tf (a b):type_of% (@Cur.app.eq_1 a b):=rfl
theorem uG (a b c d e f):type_of% (@Cur.app.eq_2 a b c d e f):=rfl
theorem vO (a):type_of% (@Cur.mk.eq_1 a):=rfl
theorem vj (a b c):type_of% (@Cur.mk.eq_2 a b c):=rfl
theorem AS (a):type_of% (@AllT.eq_1 a):=rfl
theorem BX (a b c):type_of% (@AllT.eq_2 a b c):=rfl
attribute [go_sem ↓] zq zr AY zU Ac xw xX vC vB wv wg xE yF rE rJ r7 qX A8 BB tv v8 BI Ai Ak zA zj zG C0 C8 CS CX yz FH FN FJ A9 Bh xy zc y4 Ge Ft Fz Gc Fs Fl E5 F6 FT vX vA B1 AA yl yy AQ Aq BQ z7 Dr Dw sd rQ sg AL xR xJ zB zy zd yP zf yh yG vP vz vu vG vZ vU vM wz vT vW vy vK vk vh za yJ xZ xO yQ xD xW zo yH wh vI vL vE sj tr ug uK qm rL r8 rF rW Dg De Cg Co Di Ds CR CC Dk Dv C3 C9 Bg Ax Af xT yx yB yC zb yq zE zp yL vJ wj vS vN vY tf uG vO vj AS BX
end Go.Proofs.YtdecokaadekjnaaGreat
namespace Go.Proofs.YtdecokaadekjnaaGreat
open Go
@[reducible] noncomputable def I9:List (Nat×TypeDesc):=[(3,(TypeDesc.int IntKind.i64)),
 (9,TypeDesc.string),
 (5,(TypeDesc.int IntKind.u8)),
 (4,TypeDesc.bool),
 (0,(TypeDesc.tuple #[])),
 (1,(TypeDesc.func #[] #[] false)),
 (21,(TypeDesc.int IntKind.i32)),
 (22,(TypeDesc.tuple #[4,4])),
 (24,(TypeDesc.func #[9,9] #[4] false)),
 (25,(TypeDesc.slice 9)),
 (26,(TypeDesc.tuple #[25,4])),
 (30,(TypeDesc.func #[9] #[4] false)),
 (31,(TypeDesc.tuple #[9,4])),
 (34,(TypeDesc.tuple #[3,4])),
 (36,(TypeDesc.slice 3)),
 (43,(TypeDesc.slice 25)),
 (49,(TypeDesc.struct #[{name:= "all",type:=25,offset:=0,embedded:=false,tag:= "",pkgPath:= "loop.example/g01175/spec",byteOffset:=0},{name:= "steps",type:=36,offset:=1,embedded:=false,tag:= "",pkgPath:= "loop.example/g01175/spec",byteOffset:=24},{name:= "next",type:=43,offset:=2,embedded:=false,tag:= "",pkgPath:= "loop.example/g01175/spec",byteOffset:=48}])),
 (50,(TypeDesc.tuple #[49,4])),
 (53,(TypeDesc.pointer 59)),
 (54,(TypeDesc.tuple #[53,4])),
 (57,(TypeDesc.map 9 25)),
 (59,(TypeDesc.struct #[{name:= "first",type:=9,offset:=0,embedded:=false,tag:= "",pkgPath:= "loop.example/g01175/impl",byteOffset:=0},{name:= "order",type:=25,offset:=1,embedded:=false,tag:= "",pkgPath:= "loop.example/g01175/impl",byteOffset:=16},{name:= "next",type:=57,offset:=2,embedded:=false,tag:= "",pkgPath:= "loop.example/g01175/impl",byteOffset:=40}])),
 (60,(TypeDesc.slice 4)),
 (62,(TypeDesc.map 9 4)),
 (66,(TypeDesc.tuple #[9,9])),
 (69,(TypeDesc.slice 5)),
 (70,(TypeDesc.pointer 77)),
 (71,(TypeDesc.tuple #[70,4])),
 (73,(TypeDesc.int IntKind.u32)),
 (75,(TypeDesc.map 87 3)),
 (77,(TypeDesc.struct #[{name:= "reach",type:=59,offset:=0,embedded:=true,tag:= "",pkgPath:= "loop.example/g01175/impl",byteOffset:=0},{name:= "a",type:=9,offset:=3,embedded:=false,tag:= "",pkgPath:= "loop.example/g01175/impl",byteOffset:=48},{name:= "b",type:=9,offset:=4,embedded:=false,tag:= "",pkgPath:= "loop.example/g01175/impl",byteOffset:=64},{name:= "apart",type:=75,offset:=5,embedded:=false,tag:= "",pkgPath:= "loop.example/g01175/impl",byteOffset:=80}])),
 (82,(TypeDesc.slice 36)),
 (84,(TypeDesc.struct #[{name:= "all",type:=25,offset:=0,embedded:=false,tag:= "",pkgPath:= "loop.example/g01175/spec",byteOffset:=0},{name:= "next",type:=82,offset:=1,embedded:=false,tag:= "",pkgPath:= "loop.example/g01175/spec",byteOffset:=24},{name:= "reach",type:=82,offset:=2,embedded:=false,tag:= "",pkgPath:= "loop.example/g01175/spec",byteOffset:=48},{name:= "apart",type:=82,offset:=3,embedded:=false,tag:= "",pkgPath:= "loop.example/g01175/spec",byteOffset:=72}])),
 (85,(TypeDesc.tuple #[84,3,3,4])),
 (87,(TypeDesc.array 2 9)),
 (88,(TypeDesc.pointer 136)),
 (89,(TypeDesc.tuple #[88,4])),
 (110,(TypeDesc.pointer 148)),
 (113,(TypeDesc.pointer 115)),
 (115,(TypeDesc.struct #[{name:= "list",type:=25,offset:=0,embedded:=false,tag:= "",pkgPath:= "loop.example/g01175/impl",byteOffset:=0},{name:= "bad",type:=4,offset:=1,embedded:=false,tag:= "",pkgPath:= "loop.example/g01175/impl",byteOffset:=24}])),
 (122,(TypeDesc.slice 53)),
 (124,(TypeDesc.tuple #[84,4])),
 (129,(TypeDesc.tuple #[5,4])),
 (134,(TypeDesc.slice 88)),
 (136,(TypeDesc.struct #[{name:= "kind",type:=5,offset:=0,embedded:=false,tag:= "",pkgPath:= "loop.example/g01175/impl",byteOffset:=0},{name:= "a",type:=5,offset:=1,embedded:=false,tag:= "",pkgPath:= "loop.example/g01175/impl",byteOffset:=1},{name:= "b",type:=5,offset:=2,embedded:=false,tag:= "",pkgPath:= "loop.example/g01175/impl",byteOffset:=2},{name:= "kids",type:=134,offset:=3,embedded:=false,tag:= "",pkgPath:= "loop.example/g01175/impl",byteOffset:=8}])),
 (137,(TypeDesc.func #[88] #[4] false)),
 (142,(TypeDesc.tuple #[110,4])),
 (145,(TypeDesc.struct #[{name:= "next",type:=3,offset:=0,embedded:=false,tag:= "",pkgPath:= "loop.example/g01175/impl",byteOffset:=0}])),
 (146,(TypeDesc.pointer 155)),
 (148,(TypeDesc.struct #[{name:= "maker",type:=145,offset:=0,embedded:=true,tag:= "",pkgPath:= "loop.example/g01175/impl",byteOffset:=0},{name:= "text",type:=9,offset:=1,embedded:=false,tag:= "",pkgPath:= "loop.example/g01175/impl",byteOffset:=8},{name:= "l",type:=146,offset:=2,embedded:=false,tag:= "",pkgPath:= "loop.example/g01175/impl",byteOffset:=24}])),
 (150,(TypeDesc.array 26 3)),
 (153,(TypeDesc.slice 156)),
 (155,(TypeDesc.struct #[{name:= "own",type:=36,offset:=0,embedded:=false,tag:= "",pkgPath:= "loop.example/g01175/impl",byteOffset:=0},{name:= "threads",type:=153,offset:=1,embedded:=false,tag:= "",pkgPath:= "loop.example/g01175/impl",byteOffset:=24}])),
 (156,(TypeDesc.pointer 201)),
 (157,(TypeDesc.slice 160)),
 (160,(TypeDesc.struct #[{name:= "kind",type:=5,offset:=0,embedded:=false,tag:= "",pkgPath:= "loop.example/g01175/impl",byteOffset:=0},{name:= "a",type:=3,offset:=1,embedded:=false,tag:= "",pkgPath:= "loop.example/g01175/impl",byteOffset:=8},{name:= "b",type:=3,offset:=2,embedded:=false,tag:= "",pkgPath:= "loop.example/g01175/impl",byteOffset:=16},{name:= "rest",type:=146,offset:=3,embedded:=false,tag:= "",pkgPath:= "loop.example/g01175/impl",byteOffset:=24},{name:= "again",type:=4,offset:=4,embedded:=false,tag:= "",pkgPath:= "loop.example/g01175/impl",byteOffset:=32}])),
 (161,(TypeDesc.func #[3] #[4] false)),
 (163,(TypeDesc.slice 166)),
 (166,(TypeDesc.struct #[{name:= "kind",type:=5,offset:=0,embedded:=false,tag:= "",pkgPath:= "loop.example/g01175/spec",byteOffset:=0},{name:= "over",type:=5,offset:=1,embedded:=false,tag:= "",pkgPath:= "loop.example/g01175/spec",byteOffset:=1},{name:= "name",type:=5,offset:=2,embedded:=false,tag:= "",pkgPath:= "loop.example/g01175/spec",byteOffset:=2},{name:= "rest",type:=9,offset:=3,embedded:=false,tag:= "",pkgPath:= "loop.example/g01175/spec",byteOffset:=8},{name:= "stays",type:=4,offset:=4,embedded:=false,tag:= "",pkgPath:= "loop.example/g01175/spec",byteOffset:=24}])),
 (171,(TypeDesc.map 9 172)),
 (172,(TypeDesc.array 2 73)),
 (173,(TypeDesc.slice 87)),
 (179,(TypeDesc.pointer 181)),
 (181,(TypeDesc.struct #[{name:= "s",type:=9,offset:=0,embedded:=false,tag:= "",pkgPath:= "loop.example/g01175/impl",byteOffset:=0},{name:= "at",type:=3,offset:=1,embedded:=false,tag:= "",pkgPath:= "loop.example/g01175/impl",byteOffset:=16},{name:= "bad",type:=4,offset:=2,embedded:=false,tag:= "",pkgPath:= "loop.example/g01175/impl",byteOffset:=24}])),
 (185,(TypeDesc.func #[88] #[] false)),
 (198,(TypeDesc.pointer 145)),
 (199,(TypeDesc.slice 146)),
 (201,(TypeDesc.struct #[{name:= "kind",type:=5,offset:=0,embedded:=false,tag:= "",pkgPath:= "loop.example/g01175/impl",byteOffset:=0},{name:= "a",type:=3,offset:=1,embedded:=false,tag:= "",pkgPath:= "loop.example/g01175/impl",byteOffset:=8},{name:= "b",type:=3,offset:=2,embedded:=false,tag:= "",pkgPath:= "loop.example/g01175/impl",byteOffset:=16},{name:= "rest",type:=146,offset:=3,embedded:=false,tag:= "",pkgPath:= "loop.example/g01175/impl",byteOffset:=24},{name:= "parts",type:=199,offset:=4,embedded:=false,tag:= "",pkgPath:= "loop.example/g01175/impl",byteOffset:=32}])),
 (206,(TypeDesc.func #[156] #[4] false)),
 (209,(TypeDesc.pointer 84)),
 (226,(TypeDesc.map 3 3)),
 (230,(TypeDesc.func #[146] #[4] false)),
 (231,(TypeDesc.pointer 233)),
 (233,(TypeDesc.struct #[{name:= "broken",type:=4,offset:=0,embedded:=false,tag:= "",pkgPath:= "loop.example/g01175/spec",byteOffset:=0},{name:= "once",type:=4,offset:=1,embedded:=false,tag:= "",pkgPath:= "loop.example/g01175/spec",byteOffset:=1}])),
 (245,(TypeDesc.tuple #[3,3])),
 (247,(TypeDesc.pointer 250)),
 (248,(TypeDesc.map 3 5)),
 (250,(TypeDesc.struct #[{name:= "env",type:=248,offset:=0,embedded:=false,tag:= "",pkgPath:= "loop.example/g01175/impl",byteOffset:=0},{name:= "taken",type:=73,offset:=1,embedded:=false,tag:= "",pkgPath:= "loop.example/g01175/impl",byteOffset:=8},{name:= "bad",type:=4,offset:=2,embedded:=false,tag:= "",pkgPath:= "loop.example/g01175/impl",byteOffset:=12},{name:= "owns",type:=3,offset:=3,embedded:=false,tag:= "",pkgPath:= "loop.example/g01175/impl",byteOffset:=16}])),
 (253,(TypeDesc.pointer 255)),
 (255,(TypeDesc.struct #[{name:= "front",type:=9,offset:=0,embedded:=false,tag:= "",pkgPath:= "loop.example/g01175/spec",byteOffset:=0},{name:= "threads",type:=25,offset:=1,embedded:=false,tag:= "",pkgPath:= "loop.example/g01175/spec",byteOffset:=16}]))]
theorem JR:∀p∈I9,Tryz.prog.underlying p.1=some p.2:=by
 unfold I9;refine OT.2 ⟨Tryz.underlying3,OT.2 ⟨Tryz.underlying9,OT.2 ⟨Tryz.underlying5,OT.2 ⟨Tryz.underlying4,OT.2 ⟨Tryz.underlying0,OT.2 ⟨Tryz.underlying1,OT.2 ⟨Tryz.underlying21,OT.2 ⟨Tryz.underlying22,OT.2 ⟨Tryz.underlying24,OT.2 ⟨Tryz.underlying25,OT.2 ⟨Tryz.underlying26,OT.2 ⟨Tryz.underlying30,OT.2 ⟨Tryz.underlying31,OT.2 ⟨Tryz.underlying34,OT.2 ⟨Tryz.underlying36,OT.2 ⟨Tryz.underlying43,OT.2 ⟨Tryz.underlying49,OT.2 ⟨Tryz.underlying50,OT.2 ⟨Tryz.underlying53,OT.2 ⟨Tryz.underlying54,OT.2 ⟨Tryz.underlying57,OT.2 ⟨Tryz.underlying59,OT.2 ⟨Tryz.underlying60,OT.2 ⟨Tryz.underlying62,OT.2 ⟨Tryz.underlying66,OT.2 ⟨Tryz.underlying69,OT.2 ⟨Tryz.underlying70,OT.2 ⟨Tryz.underlying71,OT.2 ⟨Tryz.underlying73,OT.2 ⟨Tryz.underlying75,OT.2 ⟨Tryz.underlying77,OT.2 ⟨Tryz.underlying82,OT.2 ⟨Tryz.underlying84,OT.2 ⟨Tryz.underlying85,OT.2 ⟨Tryz.underlying87,OT.2 ⟨Tryz.underlying88,OT.2 ⟨Tryz.underlying89,OT.2 ⟨Tryz.underlying110,OT.2 ⟨Tryz.underlying113,OT.2 ⟨Tryz.underlying115,OT.2 ⟨Tryz.underlying122,OT.2 ⟨Tryz.underlying124,OT.2 ⟨Tryz.underlying129,OT.2 ⟨Tryz.underlying134,OT.2 ⟨Tryz.underlying136,OT.2 ⟨Tryz.underlying137,OT.2 ⟨Tryz.underlying142,OT.2 ⟨Tryz.underlying145,OT.2 ⟨Tryz.underlying146,OT.2 ⟨Tryz.underlying148,OT.2 ⟨Tryz.underlying150,OT.2 ⟨Tryz.underlying153,OT.2 ⟨Tryz.underlying155,OT.2 ⟨Tryz.underlying156,OT.2 ⟨Tryz.underlying157,OT.2 ⟨Tryz.underlying160,OT.2 ⟨Tryz.underlying161,OT.2 ⟨Tryz.underlying163,OT.2 ⟨Tryz.underlying166,OT.2 ⟨Tryz.underlying171,OT.2 ⟨Tryz.underlying172,OT.2 ⟨Tryz.underlying173,OT.2 ⟨Tryz.underlying179,OT.2 ⟨Tryz.underlying181,OT.2 ⟨Tryz.underlying185,OT.2 ⟨Tryz.underlying198,OT.2 ⟨Tryz.underlying199,OT.2 ⟨Tryz.underlying201,OT.2 ⟨Tryz.underlying206,OT.2 ⟨Tryz.underlying209,OT.2 ⟨Tryz.underlying226,OT.2 ⟨Tryz.underlying230,OT.2 ⟨Tryz.underlying231,OT.2 ⟨Tryz.underlying233,OT.2 ⟨Tryz.underlying245,OT.2 ⟨Tryz.underlying247,OT.2 ⟨Tryz.underlying248,OT.2 ⟨Tryz.underlying250,OT.2 ⟨Tryz.underlying253,OT.2 ⟨Tryz.underlying255,List.forall_mem_nil _⟩⟩⟩⟩⟩⟩⟩⟩⟩⟩⟩⟩⟩⟩⟩⟩⟩⟩⟩⟩⟩⟩⟩⟩⟩⟩⟩⟩⟩⟩⟩⟩⟩⟩⟩⟩⟩⟩⟩⟩⟩⟩⟩⟩⟩⟩⟩⟩⟩⟩⟩⟩⟩⟩⟩⟩⟩⟩⟩⟩⟩⟩⟩⟩⟩⟩⟩⟩⟩⟩⟩⟩⟩⟩⟩⟩⟩⟩⟩⟩
theorem Hc (t:Nat)(d:TypeDesc)(h:nN I9 t=some d):Tryz.prog.underlying t=some d:=JR (t,d) (qt h)
@[reducible] noncomputable def JI:List (Nat×(Value×Nat×Nat)):=[(3,(.int .i64 0),1,8),
 (9,(.string ⟨#[]⟩),1,16),
 (5,(.int .u8 0),1,1),
 (4,(.bool false),1,1),
 (1,.nilFunc,1,8),
 (21,(.int .i32 0),1,4),
 (24,.nilFunc,1,8),
 (25,(.slice none 0 0),1,24),
 (30,.nilFunc,1,8),
 (36,(.slice none 0 0),1,24),
 (43,(.slice none 0 0),1,24),
 (49,(.agg #[(.slice none 0 0),(.slice none 0 0),(.slice none 0 0)]),3,72),
 (53,(.pointer none),1,8),
 (57,(.map none),1,8),
 (59,(.agg #[(.string ⟨#[]⟩),(.slice none 0 0),(.map none)]),3,48),
 (60,(.slice none 0 0),1,24),
 (62,(.map none),1,8),
 (69,(.slice none 0 0),1,24),
 (70,(.pointer none),1,8),
 (73,(.int .u32 0),1,4),
 (75,(.map none),1,8),
 (77,(.agg #[(.string ⟨#[]⟩),(.slice none 0 0),(.map none),(.string ⟨#[]⟩),(.string ⟨#[]⟩),(.map none)]),6,88),
 (82,(.slice none 0 0),1,24),
 (84,(.agg #[(.slice none 0 0),(.slice none 0 0),(.slice none 0 0),(.slice none 0 0)]),4,96),
 (87,(.agg #[(.string ⟨#[]⟩),(.string ⟨#[]⟩)]),2,32),
 (88,(.pointer none),1,8),
 (110,(.pointer none),1,8),
 (113,(.pointer none),1,8),
 (115,(.agg #[(.slice none 0 0),(.bool false)]),2,32),
 (122,(.slice none 0 0),1,24),
 (134,(.slice none 0 0),1,24),
 (136,(.agg #[(.int .u8 0),(.int .u8 0),(.int .u8 0),(.slice none 0 0)]),4,32),
 (137,.nilFunc,1,8),
 (145,(.agg #[(.int .i64 0)]),1,8),
 (146,(.pointer none),1,8),
 (148,(.agg #[(.int .i64 0),(.string ⟨#[]⟩),(.pointer none)]),3,32),
 (150,(.agg #[(.int .i64 0),(.int .i64 0),(.int .i64 0),(.int .i64 0),(.int .i64 0),(.int .i64 0),(.int .i64 0),(.int .i64 0),(.int .i64 0),(.int .i64 0),(.int .i64 0),(.int .i64 0),(.int .i64 0),(.int .i64 0),(.int .i64 0),(.int .i64 0),(.int .i64 0),(.int .i64 0),(.int .i64 0),(.int .i64 0),(.int .i64 0),(.int .i64 0),(.int .i64 0),(.int .i64 0),(.int .i64 0),(.int .i64 0)]),26,208),
 (153,(.slice none 0 0),1,24),
 (155,(.agg #[(.slice none 0 0),(.slice none 0 0)]),2,48),
 (156,(.pointer none),1,8),
 (157,(.slice none 0 0),1,24),
 (160,(.agg #[(.int .u8 0),(.int .i64 0),(.int .i64 0),(.pointer none),(.bool false)]),5,40),
 (161,.nilFunc,1,8),
 (163,(.slice none 0 0),1,24),
 (166,(.agg #[(.int .u8 0),(.int .u8 0),(.int .u8 0),(.string ⟨#[]⟩),(.bool false)]),5,32),
 (171,(.map none),1,8),
 (172,(.agg #[(.int .u32 0),(.int .u32 0)]),2,8),
 (173,(.slice none 0 0),1,24),
 (179,(.pointer none),1,8),
 (181,(.agg #[(.string ⟨#[]⟩),(.int .i64 0),(.bool false)]),3,32),
 (185,.nilFunc,1,8),
 (198,(.pointer none),1,8),
 (199,(.slice none 0 0),1,24),
 (201,(.agg #[(.int .u8 0),(.int .i64 0),(.int .i64 0),(.pointer none),(.slice none 0 0)]),5,56),
 (206,.nilFunc,1,8),
 (209,(.pointer none),1,8),
 (226,(.map none),1,8),
 (230,.nilFunc,1,8),
 (231,(.pointer none),1,8),
 (233,(.agg #[(.bool false),(.bool false)]),2,2),
 (247,(.pointer none),1,8),
 (248,(.map none),1,8),
 (250,(.agg #[(.map none),(.int .u32 0),(.bool false),(.int .i64 0)]),4,24),
 (253,(.pointer none),1,8),
 (255,(.agg #[(.string ⟨#[]⟩),(.slice none 0 0)]),2,40)]
theorem Hy:JI.map (λp=>(Tryz.prog.info? p.1).map λi=>(i.zero,i.size,i.bytes))=JI.map (λp=>some (some p.2.1,p.2.2.1,p.2.2.2)):=by kernel_rfl
theorem Jr (t:Nat)(z:Value)(s b:Nat)(h:nN JI t=some (z,s,b)):∃i,Tryz.prog.info? t=some i/\i.zero=some z/\i.size=s/\i.bytes=b:=by
 have G:=qt h;have h2:=List.map_inj_left.1 Hy _ G;cases hi:Tryz.prog.info? t with
 | none=>rw [hi]at h2;cases h2
 | some i=>
  rw [hi]at h2;simp only [QB,Qf,Prod.mk.injEq]at h2;exact⟨i,rfl,h2.1,h2.2.1,h2.2.2⟩
@[reducible] def gj:List Nat:=[3,4,5,6,7,8,9,10,11,12,13,14,15,16,17,18,19,20,21,22,23,24,25,26,27,28,29,30,31,32,33,34,35,36,37,38,39,40,41,42,43,44,45,46,47,48,49,50,51,52,53,54,55,56,57,58,59,60,61,62,63,64,65,66,67,68,69,70,71,72,73,74,75,76,77,78,79,80,81,82,83,84,85,86,87,88,89,90,91,92,93,94,95,96,97,98,99,100,101,102,103,104,105,106,107,108,109,110,111,112,113,114,115,116,117,118,119,120,121,122,123,124,125,126,127,128,129,130,131,132,133,134,135,136,137,138,139,140,141,142,143,144,145,146,147,148,149,150,151,152,153,154,155,156,157,158,159,160,161,162,163,164,165,166,167,168,169,170,171,172,173,174,175,176,177,178,179,180,181,182,183,184,185,186,187,188,189,190,191,192,193,194,195,196,197,198,199,200,201,202,203,204,205,206,207,208,209,210,211,212,214,215,216,217,218,219,220,221,222,223,224,225,226,227,228,229,230,231,235,236,237,238,239,240,241,242,243,244,245,246,247,248,249,250,251,252,253,254,255,256,257,258]
theorem GY:gj.all (λf=>match Tryz.prog.funcs[f]? with | some g=> !g.body.isNone&& !(g.name== "runtime.NumGoroutine") | none=>false)=true:=by kernel_rfl
theorem Kb (f:Nat)(h:hasR gj f=true):∃g,Tryz.prog.funcs[f]?=some g/\g.body.isNone=false/\(g.name== "runtime.NumGoroutine")=false:=by
 have G:=QN.1 GY f (Hh h);cases H:Tryz.prog.funcs[f]? with
 | none=>rw [H]at G;cases G
 | some g=>rw [H]at G;simp only [OJ,QG]at G;exact⟨g,rfl,G.1,G.2⟩
theorem FO:Tryz.prog.follows .mixedOrders=true:=by kernel_rfl
@[reducible] noncomputable def az:eC where
 P:=Tryz.prog
 und:=nN I9
 und_ok:=Hc
 inf:=nN JI
 inf_ok:=Jr
 fn:=hasR gj
 fn_ok:=Kb
 mixed:=FO
theorem N4:az.P=Tryz.prog:=rfl
@[reducible] def ab (f:Func):Code:=match f.body with
 | some c=>c
 | none=> .skip
attribute [go_sem] N4 ab
abbrev zC (w:World)(b f n:Nat)(cs:List Value)(K:Sl):Prop:=(List.length cs=n/\List.all cs ay=true/\∀j,j< n->(∃u,World.cell? w ⟨b,f+j,none⟩=some u)/\World.frozen? w ⟨b,f+j,none⟩=false)/\∀w2:World,w2=World.setCells w b f cs->K w2
abbrev cc (w:World)(o:Obj)(K:Nat->Sl):Prop:=∀(b:Nat) (w2:World),b=Array.size (World.heap w)->w2=World.alloc w o->K b w2
abbrev bH (v:Value)(K:Nat->Nat->Prop):Prop:=∃(b o:Nat),v=Value.pointer (some ⟨b,o,none⟩)/\K b o
abbrev cJ (v:Value)(i:Int)(K:Nat->Nat->Prop):Prop:=∃(b o n c:Nat),v=Value.slice (some ⟨b,o,none⟩) n c/\0<=i/\i< n/\K b o
abbrev dO (v:Value)(K:Nat->Prop):Prop:=∃(a:Option Addr) (n c:Nat),v=Value.slice a n c/\K n
abbrev fH (w:World)(b j:Nat)(v:Value)(K:Sl):Prop:=((∃u:Value,World.cell? w ⟨b,j,none⟩=some u)/\World.frozen? w ⟨b,j,none⟩=false)/\∀w2:World,w2=World.setCell w ⟨b,j,none⟩ v->K w2
abbrev bC (c:Bool)(A B:Prop):Prop:=(c=true->A)/\(c=false->B)
abbrev G2 (c:Bool)(A B:Prop):Prop:=(c=false->A)/\(c=true->B)
abbrev ja (w:World)(K:(Sl)->Sl):Prop:=∃S:Sl,∀w1:World,w1=World.drew w->S w1/\K S w1
abbrev iS (e z y:Nat)(w:World)(v x:Value)(K:Value->Sl):Prop:=∃(base n m:Nat) (xs news:List Value),World.ownsRow w base e z v n xs/\base<=Array.size (World.heap w)/\dW w x m z news/\(n+m<=maxLen/\(n+m)* y<=140737488355328)/\∀(v':Value) (w':World),World.ownsRow w' base e z v' (n+m) (xs++news)->World.grownBy w w' (Value.ownBlock v)->(∀b:Nat,Value.ownBlock v'=some b->Value.ownBlock v=some b\/Array.size (World.heap w)<=b)->K v' w'
abbrev B5 (w:World)(b o:Nat)(K:Int->Prop):Prop:=∃v:Int,World.cell? w ⟨b,o,none⟩=some (.int .i64 v)/\K v
abbrev wF (S:Sl)(b o:Nat)(K:Int->Prop):Prop:=∃v:Int,(∀w',S w'->World.cell? w' ⟨b,o,none⟩=some (.int .i64 v))/\K v
abbrev AV (w:World)(b o:Nat)(K:UInt8->Prop):Prop:=∃v:UInt8,World.cell? w ⟨b,o,none⟩=some (.int .u8 (UInt8.toNat v))/\K v
abbrev M6 (S:Sl)(b o:Nat)(K:UInt8->Prop):Prop:=∃v:UInt8,(∀w',S w'->World.cell? w' ⟨b,o,none⟩=some (.int .u8 (UInt8.toNat v)))/\K v
abbrev qb (w:World)(b o:Nat)(K:aB->Prop):Prop:=∃v:aB,World.cell? w ⟨b,o,none⟩=some (.string (ai v))/\K v
abbrev Gd (S:Sl)(b o:Nat)(K:aB->Prop):Prop:=∃v:aB,(∀w',S w'->World.cell? w' ⟨b,o,none⟩=some (.string (ai v)))/\K v
abbrev Ol (w:World)(b o:Nat)(K:Bool->Prop):Prop:=∃v:Bool,World.cell? w ⟨b,o,none⟩=some (.bool v)/\K v
abbrev bz (w:World)(b o:Nat)(K:Value->Prop):Prop:=∃v:Value,World.cell? w ⟨b,o,none⟩=some (v)/\K v
abbrev dC (S:Sl)(b o:Nat)(K:Value->Prop):Prop:=∃v:Value,(∀w',S w'->World.cell? w' ⟨b,o,none⟩=some (v))/\K v
abbrev fC (f:Nat)(a:Array Value)(w:World)(K:Sl):Prop:=Sm f a w (an [] K)
abbrev wQ (f:Nat)(a:Array Value)(w:World)(K:Value->Sl):Prop:=Sm f a w (an [.v] K)
abbrev Db (f:Nat)(a:Array Value)(w:World)(K:Bool->Sl):Prop:=Sm f a w (an [.b] K)
abbrev NT (f:Nat)(a:Array Value)(w:World)(K:aB->Sl):Prop:=Sm f a w (an [.s] K)
abbrev I6 (f:Nat)(a:Array Value)(w:World)(K:Int->Sl):Prop:=Sm f a w (an [.i] K)
abbrev Of (f:Nat)(a:Array Value)(w:World)(K:UInt32->Sl):Prop:=Sm f a w (an [.w] K)
abbrev yg (f:Nat)(a:Array Value)(w:World)(K:Value->Bool->Sl):Prop:=Sm f a w (an [.v,.b] K)
abbrev CA (f:Nat)(a:Array Value)(w:World)(K:aB->Bool->Sl):Prop:=Sm f a w (an [.s,.b] K)
abbrev N3 (f:Nat)(a:Array Value)(w:World)(K:aB->aB->Sl):Prop:=Sm f a w (an [.s,.s] K)
abbrev kH (a0:Int)(w:World)(K:(Int->Sl)->(Int->World->Nat)->Int->Sl):Prop:=∃(I:Int->Sl) (m:Int->World->Nat),I a0 w/\∀(G:Int) (w2:World),I G w2->K I m G w2
abbrev NX (a0:Int)(J:Int)(w:World)(K:(Int->Int->Sl)->(Int->Int->World->Nat)->Int->Int->Sl):Prop:=∃(I:Int->Int->Sl) (m:Int->Int->World->Nat),I a0 J w/\∀(G:Int) (H:Int) (w2:World),I G H w2->K I m G H w2
abbrev vQ (a0:Value)(J:Int)(w:World)(K:(Value->Int->Sl)->(Value->Int->World->Nat)->Value->Int->Sl):Prop:=∃(I:Value->Int->Sl) (m:Value->Int->World->Nat),I a0 J w/\∀(G:Value) (H:Int) (w2:World),I G H w2->K I m G H w2
abbrev EM (a0:Bool)(V:Value)(a2:Int)(w:World)(K:(Bool->Value->Int->Sl)->(Bool->Value->Int->World->Nat)->Bool->Value->Int->Sl):Prop:=∃(I:Bool->Value->Int->Sl) (m:Bool->Value->Int->World->Nat),I a0 V a2 w/\∀(G:Bool) (H:Value) (J:Int) (w2:World),I G H J w2->K I m G H J w2
abbrev Kw (a0:Bool)(J:Int)(w:World)(K:(Bool->Int->Sl)->(Bool->Int->World->Nat)->Bool->Int->Sl):Prop:=∃(I:Bool->Int->Sl) (m:Bool->Int->World->Nat),I a0 J w/\∀(G:Bool) (H:Int) (w2:World),I G H w2->K I m G H w2
@[simp] theorem Oh (A B:Prop):bC true A B↔A:=⟨λh=>h.1 rfl,λh=>⟨λ _=>h,(λe=>by cases e)⟩⟩
@[simp] theorem Oe (A B:Prop):bC false A B↔B:=⟨λh=>h.2 rfl,λh=>⟨(λe=>by cases e),λ _=>h⟩⟩
theorem tN {n i:Nat}(h:i< n):((n:Int) - ((i:Int)+1)).toNat< ((n:Int) - i).toNat:=by omega
theorem oL {a b:Nat}{d:Decidable ((a:Int)< b)}(h:@decide _ d=true):a< b:=Int.ofNat_lt.1 (O7 h)
theorem oE {a b:Nat}{d:Decidable ((a:Int)< b)}(h:@decide _ d=false)(k:a<=b):a=b:=by
 have :=O9 h;omega
theorem gE {α:Type}{l:List α}{i:Nat}(h:i< l.length):l[(i:Int).toNat]?=some l[i]:=by rw [OU];exact OH h
@[simp] theorem Ob (A B:Prop):G2 true A B↔B:=⟨λh=>h.2 rfl,λh=>⟨(λe=>by cases e),λ _=>h⟩⟩
@[simp] theorem Od (A B:Prop):G2 false A B↔A:=⟨λh=>h.1 rfl,λh=>⟨λ _=>h,(λe=>by cases e)⟩⟩
@[reducible] def bf (l c:List (Nat×List (Nat×Kd))) (t:List (Nat×Bool×Pl)):Fj:=⟨λn=>nN l n,λn=>nN c n,λn=>nN t n⟩
theorem D5 {f:Nat}{fn:Func}{w:World}{V:Prop}(A:Fj)(L:List RI)(args:List SV){R:Cur (nX L)}(H:az.P.funcs[f]?=some fn)(e:(fn.body,fn.results,okCode az A fn.ntmps (ab fn)&&decide (args.length<=fn.ntmps),vc az A (ab fn) (aj 0 args) w (fin az L R))=(some (ab fn),(L.map RI.rv).toArray,true,V))(h:V):Calls az.P f (SV.aQ args).toArray w (an (nX L) R):=by
 injection e with hb e
 injection e with hr e
 injection e with G e
 exact rB (T:=az) A L (c:=ab fn) (args:=args) H hb rfl hr G (Eq.mpr e h)
theorem bD {f:Nat}{fn:Func}{w:World}{A:Fj}{L:List RI}{args:List SV}{R:Cur (nX L)}(H:az.P.funcs[f]?=some fn)(e:(fn.body,fn.results,okCode az A fn.ntmps (ab fn)&&decide (args.length<=fn.ntmps))=(some (ab fn),(L.map RI.rv).toArray,true))(h:vc az A (ab fn) (aj 0 args) w (fin az L R)):Calls az.P f (SV.aQ args).toArray w (an (nX L) R):=by
 injection e with hb e
 injection e with hr G
 exact rB (T:=az) A L (c:=ab fn) (args:=args) H hb rfl hr G h
attribute [go_sem] Tryz.f161
theorem tc (c1:UInt8)(w:World)(R:Bool->Sl)(h:vc az (bf [] [] []) (ab Tryz.f161) (aj 0 [.c c1]) w (fin az [.tmp 2 .b] R)):
  Sm 161 #[(.int .u8 c1.toNat)] w (an [.b] R):=
 bD Tryz.func161 (by kernel_rfl) h
attribute [go_sem] Tryz.f110
theorem nK (G:aB)(a2:Int)(w:World)(R:Int->Sl)(h:vc az (bf [] [] []) (ab Tryz.f110) (aj 0 [.s G,.i a2]) w (fin az [.tmp 4 .i] R)):
  Sm 110 #[(.string (ai G)),(.int .i64 a2)] w (an [.i] R):=
 bD Tryz.func110 (by kernel_rfl) h
attribute [go_sem] Tryz.f120
theorem uw (G:aB)(w:World)(R:UInt8->Sl)(h:vc az (bf [] [] []) (ab Tryz.f120) (aj 0 [.s G]) w (fin az [.tmp 2 .c] R)):
  Sm 120 #[(.string (ai G))] w (an [.c] R):=
 bD Tryz.func120 (by kernel_rfl) h
attribute [go_sem] Tryz.f165
theorem uv (G:aB)(w:World)(R:Int->Sl)(h:vc az (bf [] [] []) (ab Tryz.f165) (aj 0 [.s G]) w (fin az [.tmp 2 .i] R)):
  Sm 165 #[(.string (ai G))] w (an [.i] R):=
 bD Tryz.func165 (by kernel_rfl) h
attribute [go_sem] Tryz.f117
theorem rI (G:aB)(w:World)(R:Value->Sl)(h:vc az (bf [] [] [(7,false,.lt 0 (.lt 1 (.lt 2 (.lt 3 (.lt 4 (.lt 5 (.lt 6 (.lt 7 (.lt 8 (.lt 9 (.one .h 10 (.lt 11 .done))))))))))))]) (ab Tryz.f117) (aj 0 [.s G]) w (fin az [.tmp 2 .v] R)):
  Sm 117 #[(.string (ai G))] w (an [.v] R):=
 bD Tryz.func117 (by kernel_rfl) h
attribute [go_sem] Tryz.f111
theorem tb (G:aB)(w:World)(R:Int->Sl)(h:vc az (bf [(3,[(3,.i),(9,.i)])] [] []) (ab Tryz.f111) (aj 0 [.s G]) w (fin az [.tmp 2 .i] R)):
  Sm 111 #[(.string (ai G))] w (an [.i] R):=
 bD Tryz.func111 (by kernel_rfl) h
attribute [go_sem] Tryz.f109
theorem rV (G:aB)(w:World)(R:Bool->Sl)(h:vc az (bf [(2,[(3,.i)])] [] []) (ab Tryz.f109) (aj 0 [.s G]) w (fin az [.tmp 2 .b] R)):
  Sm 109 #[(.string (ai G))] w (an [.b] R):=
 bD Tryz.func109 (by kernel_rfl) h
attribute [go_sem] Tryz.f65
theorem uV (G:aB)(w:World)(R:Bool->Sl)(h:vc az (bf [] [] []) (ab Tryz.f65) (aj 0 [.s G]) w (fin az [.tmp 2 .b] R)):
  Sm 65 #[(.string (ai G))] w (an [.b] R):=
 bD Tryz.func65 (by kernel_rfl) h
attribute [go_sem] Tryz.f56
theorem yn (s1:aB)(c2:UInt8)(w:World)(R:Bool->Sl)(h:vc az (bf [(2,[(5,.i)])] [] []) (ab Tryz.f56) (aj 0 [.s s1,.c c2]) w (fin az [.tmp 4 .b] R)):
  Sm 56 #[(.string (ai s1)),(.int .u8 c2.toNat)] w (an [.b] R):=
 bD Tryz.func56 (by kernel_rfl) h
attribute [go_sem] Tryz.f121
theorem vR (s1:aB)(c2:UInt8)(w:World)(R:aB->Sl)(h:vc az (bf [(2,[(5,.i)])] [] [(6,false,.lt 0 (.lt 1 (.lt 2 (.lt 3 (.lt 7 (.lt 8 (.lt 9 (.one .h 4 (.one .h 5 (.lt 6 (.lt 10 (.lt 11 .done))))))))))))]) (ab Tryz.f121) (aj 0 [.s s1,.c c2]) w (fin az [.tmp 4 .s] R)):
  Sm 121 #[(.string (ai s1)),(.int .u8 c2.toNat)] w (an [.s] R):=
 bD Tryz.func121 (by kernel_rfl) h
attribute [go_sem] Tryz.f119
theorem uj (s1:aB)(c2:UInt8)(w:World)(R:aB->Sl)(h:vc az (bf [(3,[(5,.s),(6,.i)])] [] []) (ab Tryz.f119) (aj 0 [.s s1,.c c2]) w (fin az [.tmp 4 .s] R)):
  Sm 119 #[(.string (ai s1)),(.int .u8 c2.toNat)] w (an [.s] R):=
 bD Tryz.func119 (by kernel_rfl) h
attribute [go_sem] Tryz.f104
theorem uI (s1:aB)(t2:aB)(w:World)(R:aB->Sl)(h:vc az (bf [(2,[(0,.s),(5,.i)])] [] []) (ab Tryz.f104) (aj 0 [.s s1,.s t2]) w (fin az [.tmp 4 .s] R)):
  Sm 104 #[(.string (ai s1)),(.string (ai t2))] w (an [.s] R):=
 bD Tryz.func104 (by kernel_rfl) h
attribute [go_sem] Tryz.f118
theorem r9 (G:aB)(w:World)(R:UInt8->Bool->Sl)(h:vc az (bf [] [] []) (ab Tryz.f118) (aj 0 [.s G]) w (fin az [.tmp 2 .c,.tmp 3 .b] R)):
  Sm 118 #[(.string (ai G))] w (an [.c,.b] R):=
 bD Tryz.func118 (by kernel_rfl) h
attribute [go_sem] Tryz.f76
theorem tA (G:aB)(w:World)(R:aB->Sl)(h:vc az (bf [(3,[(3,.s),(11,.i)])] [(10,[(3,.s)])] [(12,false,.lt 0 (.lt 1 (.lt 2 (.lt 4 (.lt 5 (.one .h 3 (.one .h 6 (.lt 7 .done)))))))),(16,false,.lt 0 (.lt 1 (.lt 2 (.lt 4 (.lt 5 (.one .h 3 (.one .h 6 (.lt 7 .done))))))))]) (ab Tryz.f76) (aj 0 [.s G]) w (fin az [.tmp 2 .s] R)):
  Sm 76 #[(.string (ai G))] w (an [.s] R):=
 bD Tryz.func76 (by kernel_rfl) h
attribute [go_sem] Tryz.f75
theorem rS (t1:aB)(w:World)(R:UInt8->Sl)(h:vc az (bf [(2,[(3,.c)]),(7,[(4,.c)])] [] []) (ab Tryz.f75) (aj 0 [.s t1]) w (fin az [.tmp 2 .c] R)):
  Sm 75 #[(.string (ai t1))] w (an [.c] R):=
 bD Tryz.func75 (by kernel_rfl) h
attribute [go_sem] Tryz.f192
theorem sZ (c1:UInt8)(G:UInt8)(H:UInt8)(w:World)(R:UInt8->Sl)(h:vc az (bf [] [] []) (ab Tryz.f192) (aj 0 [.c c1,.c G,.c H]) w (fin az [.tmp 6 .c] R)):
  Sm 192 #[(.int .u8 c1.toNat),(.int .u8 G.toNat),(.int .u8 H.toNat)] w (an [.c] R):=
 bD Tryz.func192 (by kernel_rfl) h
attribute [go_sem] Tryz.f153
theorem qi (G:aB)(H:UInt8)(J:UInt8)(w:World)(R:aB->Sl)(h:vc az (bf [] [(10,[(11,.c)]),(12,[(8,.s),(9,.c)]),(14,[(8,.s)]),(18,[]),(30,[])] [(9,false,.lt 0 (.lt 2 (.lt 3 (.br .h 1 (.one .h 4 (.one .h 5 (.one .h 6 (.one .h 7 (.lt 8 .done))))) (.one .h 4 (.br .h 1 (.one .h 5 (.one .h 6 (.one .h 7 (.lt 8 .done)))) (.one .h 5 (.one .h 1 (.one .h 6 (.one .h 7 (.lt 8 .done))))))))))),(29,false,.lt 0 (.lt 1 (.lt 2 (.lt 3 (.lt 4 (.lt 5 (.lt 7 (.lt 8 (.lt 9 (.lt 10 (.lt 11 (.one .h 6 (.one .h 12 (.one .h 13 (.one .h 14 (.lt 15 .done)))))))))))))))),(30,false,.lt 0 (.lt 2 (.lt 3 (.lt 4 (.lt 5 (.lt 6 (.lt 7 (.br .h 1 (.one .h 8 (.lt 9 (.lt 10 .done))) (.one .h 8 (.one .h 1 (.lt 9 (.lt 10 .done))))))))))))]) (ab Tryz.f153) (aj 0 [.s G,.c H,.c J]) w (fin az [.tmp 6 .s] R)):
  Sm 153 #[(.string (ai G)),(.int .u8 H.toNat),(.int .u8 J.toNat)] w (an [.s] R):=
 bD Tryz.func153 (by kernel_rfl) h
attribute [go_sem] Tryz.f247
theorem rM (G:aB)(w:World)(R:aB->Sl)(h:vc az (bf [] [] [(3,false,.lt 0 (.lt 1 (.lt 2 (.lt 3 (.lt 4 (.lt 5 .done)))))),(7,false,.lt 0 (.lt 1 (.lt 2 (.lt 3 (.lt 4 (.lt 5 .done))))))]) (ab Tryz.f247) (aj 0 [.s G]) w (fin az [.tmp 2 .s] R)):
  Sm 247 #[(.string (ai G))] w (an [.s] R):=
 bD Tryz.func247 (by kernel_rfl) h
attribute [go_sem] Tryz.f193
theorem ub (G:aB)(H:Value)(w:World)(R:aB->Sl)(h:vc az (bf [] [] [(5,false,.lt 0 (.lt 1 (.lt 2 (.lt 3 (.lt 4 (.lt 5 (.lt 6 (.lt 7 (.lt 8 (.lt 9 (.lt 10 .done))))))))))),(7,false,.lt 0 (.lt 1 (.lt 2 (.lt 3 (.lt 4 (.lt 5 (.lt 6 (.lt 7 (.lt 8 (.lt 9 (.lt 10 .done))))))))))),(8,false,.lt 0 (.lt 1 (.lt 4 (.lt 5 (.lt 6 (.one .h 2 (.lt 3 (.lt 7 (.lt 8 .done)))))))))]) (ab Tryz.f193) (aj 0 [.s G,.v H]) w (fin az [.tmp 4 .s] R)):
  Sm 193 #[(.string (ai G)),H] w (an [.s] R):=
 bD Tryz.func193 (by kernel_rfl) h
attribute [go_sem] Tryz.f112
theorem pS (G:aB)(w:World)(R:Bool->Sl)(h:vc az (bf [(2,[(8,.i)])] [] []) (ab Tryz.f112) (aj 0 [.s G]) w (fin az [.tmp 2 .b] R)):
  Sm 112 #[(.string (ai G))] w (an [.b] R):=
 bD Tryz.func112 (by kernel_rfl) h
attribute [go_sem] Tryz.f113
theorem qH (G:aB)(w:World)(R:Bool->Sl)(h:vc az (bf [(2,[(8,.i)])] [] []) (ab Tryz.f113) (aj 0 [.s G]) w (fin az [.tmp 2 .b] R)):
  Sm 113 #[(.string (ai G))] w (an [.b] R):=
 bD Tryz.func113 (by kernel_rfl) h
attribute [go_sem] Tryz.f66
theorem qy (G:aB)(w:World)(R:Bool->Sl)(h:vc az (bf [] [] []) (ab Tryz.f66) (aj 0 [.s G]) w (fin az [.tmp 2 .b] R)):
  Sm 66 #[(.string (ai G))] w (an [.b] R):=
 bD Tryz.func66 (by kernel_rfl) h
attribute [go_sem] Tryz.f190
theorem zw (G:aB)(w:World)(R:aB->Bool->Sl)(h:vc az (bf [] [] []) (ab Tryz.f190) (aj 0 [.s G]) w (fin az [.tmp 2 .s,.tmp 3 .b] R)):
  Sm 190 #[(.string (ai G))] w (an [.s,.b] R):=
 bD Tryz.func190 (by kernel_rfl) h
end Go.Proofs.YtdecokaadekjnaaGreat
namespace Go.Proofs.YtdecokaadekjnaaGreat
inductive T (N:Type) where
 | nil
 | snd (a b:N) (p:T N)
 | rcv (a x:N) (p:T N)
 | tau (p:T N)
 | sum (p q:T N)
 | par (p q:T N)
 | res (x:N) (p:T N)
 | mat (a b:N) (p:T N)
 | rep (p:T N)
def aI {A V:Type}[DecidableEq A](ρ:A->V)(x:A)(v:V):A->V:=λy=>if y=x then v else ρ y
section
variable {A B C:Type} [DecidableEq A] [DecidableEq B] [DecidableEq C]
theorem dg (ρ:A->Nat)(x:A)(v:Nat):aI ρ x v x=v:=by simp [aI]
theorem bQ (ρ:A->Nat){x y:A}(v:Nat)(h:y≠x):aI ρ x v y=ρ y:=by simp [aI,h]
namespace T
def Fr (x:A):T A->Prop
 | nil=>False
 | snd a b p=>x=a\/x=b\/p.Fr x
 | rcv a y p=>x=a\/(x≠y/\p.Fr x)
 | tau p=>p.Fr x
 | sum p q=>p.Fr x\/q.Fr x
 | par p q=>p.Fr x\/q.Fr x
 | res y p=>x≠y/\p.Fr x
 | mat a b p=>x=a\/x=b\/p.Fr x
 | rep p=>p.Fr x
def dead:T A->Bool
 | nil=>true | snd .. =>false | rcv .. =>false | tau _=>false
 | sum p q=>p.dead&&q.dead
 | par p q=>p.dead&&q.dead
 | res _ p=>p.dead | mat _ _ p=>p.dead | rep p=>p.dead
def Us (x:A):T A->Prop
 | nil=>False
 | snd a b p=>x=a\/x=b\/p.Us x
 | rcv a y p=>x=a\/(x≠y/\p.Us x)
 | tau p=>p.Us x
 | sum p q=>p.Us x\/q.Us x
 | par p q=>p.Us x\/q.Us x
 | res y p=>x≠y/\p.Us x
 | mat a b p=>(a=b/\p.Us x)\/(a≠b/\p.dead=false/\(x=a\/x=b\/p.Us x))
 | rep p=>p.Us x
def size:T A->Nat
 | nil=>1 | snd _ _ p=>p.size+1 | rcv _ _ p=>p.size+1 | tau p=>p.size+1 | sum p q=>p.size+q.size+1
 | par p q=>p.size+q.size+1 | res _ p=>p.size+1 | mat _ _ p=>p.size+1 | rep p=>p.size+1
theorem bI {A:Type}{x:A}:∀{p:T A},p.Us x->p.Fr x
 | snd a b p,h=>by simp only [Us,Fr]at*;exact h.imp id λh=>h.imp id bI
 | rcv a y p,h=>by simp only [Us,Fr]at*;exact h.imp id λh=>h.imp id bI
 | tau p,h=>bI (p:=p) h
 | sum p q,h=>Or.imp bI bI h
 | par p q,h=>Or.imp bI bI h
 | res y p,h=>And.imp id bI h
 | mat a b p,h=>by
  simp only [Us,Fr]at*;rcases h with⟨_,h⟩ | ⟨_,_,h⟩
  ·exact .inr (.inr (bI h))
  ·exact h.imp id λh=>h.imp id bI
 | rep p,h=>bI (p:=p) h
theorem bK {A:Type}{x:A}:∀{p:T A},p.dead=true->¬p.Us x
 | nil,_,h=>h
 | snd ..,hd,_=>by cases hd
 | rcv ..,hd,_=>by cases hd
 | tau ..,hd,_=>by cases hd
 | sum p q,hd,h=>by
  simp only [dead,OJ]at hd;exact h.elim (bK hd.1) (bK hd.2)
 | par p q,hd,h=>by
  simp only [dead,OJ]at hd;exact h.elim (bK hd.1) (bK hd.2)
 | res y p,hd,h=>bK (p:=p) hd h.2
 | mat a b p,hd,h=>by
  simp only [dead]at hd;rcases h with⟨_,h⟩ | ⟨_,h,_⟩
  ·exact bK hd h
  ·rw [hd]at h;cases h
 | rep p,hd,h=>bK (p:=p) hd h
end T
def AE:(A->Nat)->T A->(B->Nat)->T B->Prop
 | _,.nil,_,.nil=>True
 | ρ,.snd a b p,σ,.snd c d q=>ρ a=σ c/\ρ b=σ d/\AE ρ p σ q
 | ρ,.rcv a x p,σ,.rcv c y q=>ρ a=σ c/\∀v,AE (aI ρ x v) p (aI σ y v) q
 | ρ,.tau p,σ,.tau q=>AE ρ p σ q
 | ρ,.sum p G,σ,.sum q H=>AE ρ p σ q/\AE ρ G σ H
 | ρ,.par p G,σ,.par q H=>AE ρ p σ q/\AE ρ G σ H
 | ρ,.res x p,σ,.res y q=>∀v,AE (aI ρ x v) p (aI σ y v) q
 | ρ,.mat a b p,σ,.mat c d q=>ρ a=σ c/\ρ b=σ d/\AE ρ p σ q
 | ρ,.rep p,σ,.rep q=>AE ρ p σ q
 | _,_,_,_=>False
theorem mY {p:T A}{ρ ρ':A->Nat}{x:A}(v:Nat)(h:∀z,z≠x->p.Fr z->ρ z=ρ' z)(z:A)(H:p.Fr z):aI ρ x v z=aI ρ' x v z:=by
 unfold aI;split
 ·rfl
 ·rename_i G;exact h z G H
theorem AE.congr:∀{p:T A} {q:T B} {ρ ρ':A->Nat} {σ V:B->Nat},AE ρ p σ q->(∀x,p.Fr x->ρ x=ρ' x)->(∀y,q.Fr y->σ y=V y)->AE ρ' p V q:=by
 intro p
 induction p<;>intro q ρ ρ' σ V h H h2<;>cases q<;>simp only [AE]at h|-
 case snd.snd J _ _ _=>
  exact⟨by rw [<-H _ (.inl rfl),<-h2 _ (.inl rfl)];exact h.1,by rw [<-H _ (.inr (.inl rfl)),<-h2 _ (.inr (.inl rfl))];exact h.2.1,
   J h.2.2 (λx G=>H x (.inr (.inr G))) (λx G=>h2 x (.inr (.inr G)))⟩
 case mat.mat J _ _ _=>
  exact⟨by rw [<-H _ (.inl rfl),<-h2 _ (.inl rfl)];exact h.1,by rw [<-H _ (.inr (.inl rfl)),<-h2 _ (.inr (.inl rfl))];exact h.2.1,
   J h.2.2 (λx G=>H x (.inr (.inr G))) (λx G=>h2 x (.inr (.inr G)))⟩
 case rcv.rcv J _ _ _=>
  exact⟨by rw [<-H _ (.inl rfl),<-h2 _ (.inl rfl)];exact h.1,
   λv=>J (h.2 v) (mY v λz W Z=>H z (.inr ⟨W,Z⟩)) (mY v λz W Z=>h2 z (.inr ⟨W,Z⟩))⟩
 case res.res J _ _=>
  exact λv=>J (h v) (mY v λz W Z=>H z ⟨W,Z⟩) (mY v λz W Z=>h2 z ⟨W,Z⟩)
 case tau.tau J _=>exact J h H h2
 case rep.rep J _=>exact J h H h2
 case sum.sum J α _ _=>exact⟨J h.1 (λx G=>H x (.inl G)) (λx G=>h2 x (.inl G)),α h.2 (λx G=>H x (.inr G)) (λx G=>h2 x (.inr G))⟩
 case par.par J α _ _=>exact⟨J h.1 (λx G=>H x (.inl G)) (λx G=>h2 x (.inl G)),α h.2 (λx G=>H x (.inr G)) (λx G=>h2 x (.inr G))⟩
theorem AE.refl:∀(p:T A) (ρ:A->Nat),AE ρ p ρ p:=by
 intro p
 induction p<;>intro ρ<;>simp_all [AE]
theorem AE.symm:∀{p:T A} {q:T B} {ρ:A->Nat} {σ:B->Nat},AE ρ p σ q->AE σ q ρ p:=by
 intro p
 induction p<;>intro q ρ σ h<;>cases q<;>simp only [AE]at h|-
 case snd.snd G _ _ _=>exact⟨h.1.symm,h.2.1.symm,G h.2.2⟩
 case mat.mat G _ _ _=>exact⟨h.1.symm,h.2.1.symm,G h.2.2⟩
 case rcv.rcv G _ _ _=>exact⟨h.1.symm,λv=>G (h.2 v)⟩
 case res.res G _ _=>exact λv=>G (h v)
 case tau.tau G _=>exact G h
 case rep.rep G _=>exact G h
 case sum.sum G H _ _=>exact⟨G h.1,H h.2⟩
 case par.par G H _ _=>exact⟨G h.1,H h.2⟩
theorem AE.trans:∀{p:T A} {q:T B} {r:T C} {ρ:A->Nat} {σ:B->Nat} {τ:C->Nat},AE ρ p σ q->AE σ q τ r->AE ρ p τ r:=by
 intro p
 induction p<;>intro q r ρ σ τ h k<;>cases q<;>simp only [AE]at h<;>cases r<;>simp only [AE]at k|-
 case snd.snd.snd G _ _ _ _ _ _=>exact⟨h.1.trans k.1,h.2.1.trans k.2.1,G h.2.2 k.2.2⟩
 case mat.mat.mat G _ _ _ _ _ _=>exact⟨h.1.trans k.1,h.2.1.trans k.2.1,G h.2.2 k.2.2⟩
 case rcv.rcv.rcv G _ _ _ _ _ _=>exact⟨h.1.trans k.1,λv=>G (h.2 v) (k.2 v)⟩
 case res.res.res G _ _ _ _=>exact λv=>G (h v) (k v)
 case tau.tau.tau G _ _=>exact G h k
 case rep.rep.rep G _ _=>exact G h k
 case sum.sum.sum G H _ _ _ _=>exact⟨G h.1 k.1,H h.2 k.2⟩
 case par.par.par G H _ _ _ _=>exact⟨G h.1 k.1,H h.2 k.2⟩
theorem An {A:Type}(p:T A):∀ρ:A->Nat,∃B,∀x,p.Fr x->ρ x< B:=by
 induction p<;>intro ρ
 case nil=>exact⟨0,λx h=>h.elim⟩
 case snd a b p H=>
  obtain⟨n,h⟩:=H ρ;refine⟨n+ρ a+ρ b+1,λx G=>?_⟩;rcases G with rfl | rfl | G
  ·omega
  ·omega
  ·have :=h x G;omega
 case mat a b p H=>
  obtain⟨n,h⟩:=H ρ;refine⟨n+ρ a+ρ b+1,λx G=>?_⟩;rcases G with rfl | rfl | G
  ·omega
  ·omega
  ·have :=h x G;omega
 case rcv a y p H=>
  obtain⟨n,h⟩:=H ρ;refine⟨n+ρ a+1,λx G=>?_⟩;rcases G with rfl | G
  ·omega
  ·have :=h x G.2;omega
 case res y p H=>
  obtain⟨n,h⟩:=H ρ;exact⟨n,λx G=>h x G.2⟩
 case tau p H=>exact H ρ
 case rep p H=>exact H ρ
 case sum p q H J=>
  obtain⟨n,h⟩:=H ρ;obtain⟨m,h'⟩:=J ρ;refine⟨n+m,λx G=>?_⟩;rcases G with G | G
  ·have :=h x G;omega
  ·have :=h' x G;omega
 case par p q H J=>
  obtain⟨n,h⟩:=H ρ;obtain⟨m,h'⟩:=J ρ;refine⟨n+m,λx G=>?_⟩;rcases G with G | G
  ·have :=h x G;omega
  ·have :=h' x G;omega
theorem cu {A B:Type}(p:T A)(q:T B)(ρ:A->Nat)(σ:B->Nat):∃v,(∀x,p.Fr x->ρ x≠v)/\∀y,q.Fr y->σ y≠v:=by
 obtain⟨n,h⟩:=An p ρ;obtain⟨m,h'⟩:=An q σ;exact⟨n+m,λx G=>by have :=h x G;omega,λx G=>by have :=h' x G;omega⟩
theorem AE.map:∀{p:T A} {q:T B} {ρ:A->Nat} {σ:B->Nat} (f:Nat->Nat),AE ρ p σ q->AE (λx=>f (ρ x)) p (λx=>f (σ x)) q:=by
 intro p
 induction p<;>intro q ρ σ f h<;>cases q<;>simp only [AE]at h|-
 case snd.snd G _ _ _=>exact⟨PS f h.1,PS f h.2.1,G f h.2.2⟩
 case mat.mat G _ _ _=>exact⟨PS f h.1,PS f h.2.1,G f h.2.2⟩
 case rcv.rcv p G _ _ q=>
  refine⟨PS f h.1,λv=>?_⟩;obtain⟨u,V,h2⟩:=cu p q ρ σ;refine(G (aI f u v) (h.2 u)).congr (λx H=>?_) λx H=>?_<;>unfold aI<;>split
  ·simp
  ·rw [O1 (V _ H)]
  ·simp
  ·rw [O1 (h2 _ H)]
 case res.res p G _ q=>
  intro v;obtain⟨u,V,h2⟩:=cu p q ρ σ;refine(G (aI f u v) (h u)).congr (λx H=>?_) λx H=>?_<;>unfold aI<;>split
  ·simp
  ·rw [O1 (V _ H)]
  ·simp
  ·rw [O1 (h2 _ H)]
 case tau.tau G _=>exact G f h
 case rep.rep G _=>exact G f h
 case sum.sum G J _ _=>exact⟨G f h.1,J f h.2⟩
 case par.par G J _ _=>exact⟨G f h.1,J f h.2⟩
theorem AE.dead:∀{p:T A} {q:T B} {ρ:A->Nat} {σ:B->Nat},AE ρ p σ q->p.dead=q.dead:=by
 intro p
 induction p<;>intro q ρ σ h<;>cases q<;>simp only [AE]at h<;>simp only [T.dead]
 case res.res G _ _=>exact G (h 0)
 case mat.mat G _ _ _=>exact G h.2.2
 case rep.rep G _=>exact G h
 case sum.sum G H _ _=>rw [G h.1,H h.2]
 case par.par G H _ _=>rw [G h.1,H h.2]
theorem AE.free:∀{p:T A} {q:T B} {ρ:A->Nat} {σ:B->Nat},AE ρ p σ q->∀x,p.Fr x->∃y,q.Fr y/\σ y=ρ x:=by
 intro p
 induction p<;>intro q ρ σ h x G<;>cases q<;>simp only [AE]at h
 case nil.nil=>exact G.elim
 case snd.snd H _ _ _=>
  rcases G with rfl | rfl | G
  ·exact⟨_,.inl rfl,h.1.symm⟩
  ·exact⟨_,.inr (.inl rfl),h.2.1.symm⟩
  ·obtain⟨y,J,h2⟩:=H h.2.2 x G;exact⟨y,.inr (.inr J),h2⟩
 case mat.mat H _ _ _=>
  rcases G with rfl | rfl | G
  ·exact⟨_,.inl rfl,h.1.symm⟩
  ·exact⟨_,.inr (.inl rfl),h.2.1.symm⟩
  ·obtain⟨y,J,h2⟩:=H h.2.2 x G;exact⟨y,.inr (.inr J),h2⟩
 case rcv.rcv p H _ _ q=>
  rcases G with rfl | ⟨V,G⟩
  ·exact⟨_,.inl rfl,h.1.symm⟩
  ·obtain⟨u,J,h2⟩:=cu p q ρ σ;obtain⟨y,Z,h4⟩:=H (h.2 u) x G;rw [bQ _ _ V]at h4;unfold aI at h4;split at h4
   ·exact absurd h4.symm (J x G)
   ·rename_i hy;exact⟨y,.inr ⟨hy,Z⟩,h4⟩
 case res.res p H _ q=>
  obtain⟨V,G⟩:=G;obtain⟨u,J,h2⟩:=cu p q ρ σ;obtain⟨y,Z,h4⟩:=H (h u) x G;rw [bQ _ _ V]at h4;unfold aI at h4;split at h4
  ·exact absurd h4.symm (J x G)
  ·rename_i hy;exact⟨y,⟨hy,Z⟩,h4⟩
 case tau.tau H _=>exact H h x G
 case rep.rep H _=>exact H h x G
 case sum.sum H W _ _=>
  rcases G with G | G
  ·obtain⟨y,J,h2⟩:=H h.1 x G;exact⟨y,.inl J,h2⟩
  ·obtain⟨y,J,h2⟩:=W h.2 x G;exact⟨y,.inr J,h2⟩
 case par.par H W _ _=>
  rcases G with G | G
  ·obtain⟨y,J,h2⟩:=H h.1 x G;exact⟨y,.inl J,h2⟩
  ·obtain⟨y,J,h2⟩:=W h.2 x G;exact⟨y,.inr J,h2⟩
def fp (ρ:A->Nat)(p:T A):Prop:=∀x y,p.Us x->p.Us y->ρ x=ρ y->x=y
theorem fp.aI {ρ:A->Nat}{p:T A}{x:A}{v:Nat}(h:∀y z,y≠x->z≠x->p.Us y->p.Us z->ρ y=ρ z->y=z)(H:∀y,y≠x->p.Us y->ρ y≠v):fp (aI ρ x v) p:=by
 intro y z J V e;unfold Proofs.YtdecokaadekjnaaGreat.aI at e;split at e<;>split at e
 ·rename_i G h2;rw [G,h2]
 ·rename_i G h2;exact absurd e.symm (H z h2 V)
 ·rename_i G h2;exact absurd e (H y G J)
 ·rename_i G h2;exact h y z G h2 J V e
theorem AE.used:∀{p:T A} {q:T B} {ρ:A->Nat} {σ:B->Nat},AE ρ p σ q->fp ρ p->fp σ q->∀x,p.Us x->∃y,q.Us y/\σ y=ρ x:=by
 intro p
 induction p<;>intro q ρ σ h i j x G<;>cases q<;>simp only [AE]at h
 case nil.nil=>exact G.elim
 case snd.snd W _ _ _=>
  rcases G with rfl | rfl | G
  ·exact⟨_,.inl rfl,h.1.symm⟩
  ·exact⟨_,.inr (.inl rfl),h.2.1.symm⟩
  ·obtain⟨y,J,h2⟩:=W h.2.2 (λx y G H=>i x y (.inr (.inr G)) (.inr (.inr H))) (λx y G H=>j x y (.inr (.inr G)) (.inr (.inr H))) x G;exact⟨y,.inr (.inr J),h2⟩
 case mat.mat p W c d q=>
  have hd:p.dead=q.dead:=h.2.2.dead;rcases G with⟨e,G⟩ | ⟨e,α,G⟩
  ·subst e;have e2:σ c=σ d:=h.1.symm.trans h.2.1;have hl:p.dead=false:=by
    cases hq:p.dead with
    | false=>rfl
    | true=>exact absurd G (T.bK hq)
   have V:c=d:=by
    refine PJ λZ=>Z (j c d ?_ ?_ e2)
    ·exact .inr ⟨Z,hd▸hl,.inl rfl⟩
    ·exact .inr ⟨Z,hd▸hl,.inr (.inl rfl)⟩
   obtain⟨y,J,h2⟩:=W h.2.2 (λx y G H=>i x y (.inl ⟨rfl,G⟩) (.inl ⟨rfl,H⟩)) (λx y G H=>j x y (.inl ⟨V,G⟩) (.inl ⟨V,H⟩)) x G;exact⟨y,.inl ⟨V,J⟩,h2⟩
  ·rename_i a b;have V:c≠d:=by
    rintro rfl
    exact e (i a b (.inr ⟨e,α,.inl rfl⟩) (.inr ⟨e,α,.inr (.inl rfl)⟩) (h.1.trans h.2.1.symm))
   have β:q.dead=false:=hd▸α;rcases G with rfl | rfl | G
   ·exact⟨c,.inr ⟨V,β,.inl rfl⟩,h.1.symm⟩
   ·exact⟨d,.inr ⟨V,β,.inr (.inl rfl)⟩,h.2.1.symm⟩
   ·obtain⟨y,J,h2⟩:=W h.2.2 (λx y G H=>i x y (.inr ⟨e,α,.inr (.inr G)⟩) (.inr ⟨e,α,.inr (.inr H)⟩))
     (λx y G H=>j x y (.inr ⟨V,β,.inr (.inr G)⟩) (.inr ⟨V,β,.inr (.inr H)⟩)) x G
    exact⟨y,.inr ⟨V,β,.inr (.inr J)⟩,h2⟩
 case rcv.rcv p W _ _ q=>
  rcases G with rfl | ⟨Z,G⟩
  ·exact⟨_,.inl rfl,h.1.symm⟩
  ·obtain⟨u,J,h2⟩:=cu p q ρ σ;obtain⟨y,h3,h4⟩:=W (h.2 u) (.aI (λy z H hz h5 h6=>i y z (.inr ⟨H,h5⟩) (.inr ⟨hz,h6⟩)) λy _ H=>J y (T.bI H))
    (.aI (λy z H hz h5 h6=>j y z (.inr ⟨H,h5⟩) (.inr ⟨hz,h6⟩)) λy _ H=>h2 y (T.bI H)) x G
   rw [bQ _ _ Z]at h4;unfold aI at h4;split at h4
   ·exact absurd h4.symm (J x (T.bI G))
   ·rename_i H;exact⟨y,.inr ⟨H,h3⟩,h4⟩
 case res.res p W _ q=>
  obtain⟨Z,G⟩:=G;obtain⟨u,J,h2⟩:=cu p q ρ σ;obtain⟨y,h3,h4⟩:=W (h u) (.aI (λy z H hz h5 h6=>i y z ⟨H,h5⟩ ⟨hz,h6⟩) λy _ H=>J y (T.bI H))
    (.aI (λy z H hz h5 h6=>j y z ⟨H,h5⟩ ⟨hz,h6⟩) λy _ H=>h2 y (T.bI H)) x G
  rw [bQ _ _ Z]at h4;unfold aI at h4;split at h4
  ·exact absurd h4.symm (J x (T.bI G))
  ·rename_i H;exact⟨y,⟨H,h3⟩,h4⟩
 case tau.tau W _=>exact W h i j x G
 case rep.rep W _=>exact W h i j x G
 case sum.sum W γ _ _=>
  rcases G with G | G
  ·obtain⟨y,J,h2⟩:=W h.1 (λx y G H=>i x y (.inl G) (.inl H)) (λx y G H=>j x y (.inl G) (.inl H)) x G;exact⟨y,.inl J,h2⟩
  ·obtain⟨y,J,h2⟩:=γ h.2 (λx y G H=>i x y (.inr G) (.inr H)) (λx y G H=>j x y (.inr G) (.inr H)) x G;exact⟨y,.inr J,h2⟩
 case par.par W γ _ _=>
  rcases G with G | G
  ·obtain⟨y,J,h2⟩:=W h.1 (λx y G H=>i x y (.inl G) (.inl H)) (λx y G H=>j x y (.inl G) (.inl H)) x G;exact⟨y,.inl J,h2⟩
  ·obtain⟨y,J,h2⟩:=γ h.2 (λx y G H=>i x y (.inr G) (.inr H)) (λx y G H=>j x y (.inr G) (.inr H)) x G;exact⟨y,.inr J,h2⟩
def aD (p:T A)(old nm:A)(q:T A):Prop:=∀ρ:A->Nat,AE (aI ρ old (ρ nm)) p ρ q
def sw (c old nm:A):A:=if c=old then nm else c
theorem oy (ρ:A->Nat)(c old nm:A):aI ρ old (ρ nm) c=ρ (sw c old nm):=by
 unfold aI sw;split<;>rfl
theorem aD.skip {p:T A}{old nm:A}(h:¬p.Fr old):aD p old nm p:=λρ=>
 (AE.refl p ρ).congr (λx G=>by
  unfold aI;split
  ·rename_i e;subst e;exact absurd G h
  ·rfl) λ _ _=>rfl
theorem aD.same {p:T A}(old:A):aD p old old p:=λρ=>
 (AE.refl p ρ).congr (λx G=>by
  unfold aI;split
  ·rename_i e;subst e;rfl
  ·rfl) λ _ _=>rfl
theorem aD.snd {p q:T A}{old nm:A}(a b:A)(h:aD p old nm q):aD (.snd a b p) old nm (.snd (sw a old nm) (sw b old nm) q):=λρ=>
 ⟨oy ..,oy ..,h ρ⟩
theorem aD.mat {p q:T A}{old nm:A}(a b:A)(h:aD p old nm q):aD (.mat a b p) old nm (.mat (sw a old nm) (sw b old nm) q):=λρ=>
 ⟨oy ..,oy ..,h ρ⟩
theorem aD.tau {p q:T A}{old nm:A}(h:aD p old nm q):aD (.tau p) old nm (.tau q):=λρ=>h ρ
theorem aD.rep {p q:T A}{old nm:A}(h:aD p old nm q):aD (.rep p) old nm (.rep q):=λρ=>h ρ
theorem aD.sum {p q G H:T A}{old nm:A}(h:aD p old nm q)(h':aD G old nm H):aD (.sum p G) old nm (.sum q H):=λρ=>⟨h ρ,h' ρ⟩
theorem aD.par {p q G H:T A}{old nm:A}(h:aD p old nm q)(h':aD G old nm H):aD (.par p G) old nm (.par q H):=λρ=>⟨h ρ,h' ρ⟩
theorem aD.under {p q:T A}{old nm x:A}(H:x≠old)(G:x≠nm\/¬p.Fr old)(h:aD p old nm q)(ρ:A->Nat)(v:Nat):
  AE (aI (aI ρ old (ρ nm)) x v) p (aI ρ x v) q:=by
 refine(h (aI ρ x v)).congr (λz V=>?_) λ _ _=>rfl
 by_cases J:z=old
 ·subst J;rcases G with G | G
  ·simp [aI,R2 G,R2 H]
  ·exact absurd V G
 ·by_cases h2:z=x<;>simp [aI,J,h2,H]
theorem aD.over {p:T A}{old nm:A}(ρ:A->Nat)(v:Nat):AE (aI (aI ρ old (ρ nm)) old v) p (aI ρ old v) p:=by
 refine(AE.refl p (aI ρ old v)).congr (λz G=>?_) λ _ _=>rfl
 unfold aI;split<;>rfl
theorem aD.cap {p W Z:T A}{old nm y:A}(ho:nm≠old)(hy:¬p.Fr y)(G:y≠old)(H:y≠nm)(h1:aD p nm y W)(h2:aD W old nm Z)(ρ:A->Nat)(v:Nat):
  AE (aI (aI ρ old (ρ nm)) nm v) p (aI ρ y v) Z:=by
 have k2:=h2 (aI ρ y v);have k1:=h1 (aI (aI ρ y v) old (aI ρ y v nm));refine(AE.trans k1 k2).congr (λz hz=>?_) λ _ _=>rfl
 have J:z≠y:=by rintro rfl;exact hy hz
 by_cases V:z=nm
 ·subst V;simp [aI,G]
 ·by_cases e2:z=old
  ·subst e2;simp [aI,V,R2 H]
  ·simp [aI,V,e2,J]
theorem aD.FI {p q:T A}{old nm x:A}(G:x≠old)(H:x≠nm\/¬p.Fr old)(h:aD p old nm q):aD (.res x p) old nm (.res x q):=λρ v=>h.under G H ρ v
theorem aD.FM {p q:T A}{old nm x:A}(a:A)(G:x≠old)(H:x≠nm\/¬p.Fr old)(h:aD p old nm q):aD (.rcv a x p) old nm (.rcv (sw a old nm) x q):=λρ=>
 ⟨oy ..,λv=>h.under G H ρ v⟩
theorem aD.Gx {p:T A}{old nm:A}(a:A):aD (.rcv a old p) old nm (.rcv (sw a old nm) old p):=λρ=>⟨oy ..,λv=>aD.over ρ v⟩
theorem aD.Kh {p J V:T A}{old nm y:A}(W:nm≠old)(Z:¬p.Fr y)(G:y≠old)(H:y≠nm)(h1:aD p nm y J)(h2:aD J old nm V):aD (.res nm p) old nm (.res y V):=λρ v=>
 aD.cap W Z G H h1 h2 ρ v
theorem aD.Jo {p J V:T A}{old nm y:A}(a:A)(W:nm≠old)(Z:¬p.Fr y)(G:y≠old)(H:y≠nm)(h1:aD p nm y J)(h2:aD J old nm V):aD (.rcv a nm p) old nm (.rcv (sw a old nm) y V):=λρ=>
 ⟨oy ..,λv=>aD.cap W Z G H h1 h2 ρ v⟩
theorem AE.renamed {p q:T A}{old nm:A}(h:aD p old nm q){u:T B}{ρ:A->Nat}{σ:B->Nat}(G:∀x,p.Fr x->ρ x=ρ old->x=old)(k:AE ρ p σ u):AE ρ q (λx=>if σ x=ρ old then ρ nm else σ x) u:=by
 have H:=k.map (λv=>if v=ρ old then ρ nm else v);refine(h ρ).symm.trans (H.congr (λx J=>?_) λ _ _=>rfl);unfold aI;by_cases e:x=old
 ·subst e;simp
 ·rw [O1 (λh=>e (G x J h)),O1 e]
end
inductive K where
 | s | r | t | m | p
 deriving DecidableEq
inductive Lv where
 | nil
 | thr (k:K) (a b:Nat) (own:List Nat) (rest:Lv) (next:Lv)
 | sum (parts:Lv) (next:Lv)
 | part (own:List Nat) (q:Lv) (next:Lv)
namespace Lv
def app:Lv->Lv->Lv
 | nil,m=>m
 | thr k a b o r n,m=>thr k a b o r (n.app m)
 | sum ps n,m=>sum ps (n.app m)
 | part o q n,m=>part o q (n.app m)
def len:Lv->Nat
 | nil=>0 | thr _ _ _ _ _ n=>n.len+1 | sum _ n=>n.len+1 | part _ _ n=>n.len+1
def isNil:Lv->Bool
 | nil=>true | _=>false
theorem aY:∀l:Lv,l.app nil=l
 | nil=>rfl
 | thr k a b o r n=>by rw [app,aY n]
 | sum ps n=>by rw [app,aY n]
 | part o q n=>by rw [app,aY n]
theorem cI:∀l m n:Lv,(l.app m).app n=l.app (m.app n)
 | nil,m,n=>rfl
 | thr k a b o r x,m,n=>by simp only [app,cI x m n]
 | sum ps x,m,n=>by simp only [app,cI x m n]
 | part o q x,m,n=>by simp only [app,cI x m n]
theorem eN:∀l m:Lv,(l.app m).len=l.len+m.len
 | nil,m=>by simp [app,len]
 | thr k a b o r x,m=>by simp only [app,len,eN x m];omega
 | sum ps x,m=>by simp only [app,len,eN x m];omega
 | part o q x,m=>by simp only [app,len,eN x m];omega
theorem dy (l:Lv):l.isNil=decide (l.len=0):=by cases l<;>simp [isNil,len]
def has (x:Nat):Lv->Bool
 | nil=>false
 | thr k a b _ rest next=>((k== .s||k== .m||k== .r)&&(a==x||b==x))||rest.has x||next.has x
 | sum ps next=>ps.has x||next.has x
 | part _ q next=>q.has x||next.has x
theorem dk (x:Nat):∀l m:Lv,(l.app m).has x=(l.has x||m.has x)
 | nil,m=>by simp [app,has]
 | thr k a b o r n,m=>by simp only [app,has,dk x n m,Ql]
 | sum ps n,m=>by simp only [app,has,dk x n m,Ql]
 | part o q n,m=>by simp only [app,has,dk x n m,Ql]
def spl (ps:Lv)(n:List Nat×Lv):List Nat×Lv:=match ps with
 | nil=>n
 | part o q nil=>(o++n.1,q.app n.2)
 | ps=>(n.1,sum ps n.2)
def prt (o:List Nat)(q:Lv)(n:Lv):Lv:=match q with
 | nil=>n
 | sum ps nil=>if o.isEmpty then ps.app n else part o q n
 | q=>part o q n
def kept (own:List Nat)(r:List Nat×Lv):List Nat×Lv:=((own++r.1).filter λx=>r.2.has x,r.2)
def tid:Lv->List Nat×Lv
 | nil=>([],nil)
 | thr k a b own rest next=>
  let r:=kept own (tid rest)
  let n:=tid next
  if k= .m/\a=b then(r.1++n.1,r.2.app n.2)
  else if(k= .m\/k= .p)/\r.2.isNil=true then n
  else(n.1,thr k a b r.1 r.2 n.2)
 | sum ps next=>spl (tid ps).2 (tid next)
 | part own q next=>let r:=kept own (tid q);([],prt r.1 r.2 (tid next).2)
def tidy (own:List Nat)(l:Lv):List Nat×Lv:=kept own (tid l)
def fZ:Lv->Bool
 | nil=>true | thr _ _ _ _ _ n=>n.fZ | sum _ n=>n.fZ | part .. =>false
theorem pb:∀l m:Lv,(l.app m).fZ=(l.fZ&&m.fZ)
 | nil,m=>by simp [app,fZ]
 | thr k a b o r n,m=>by simp only [app,fZ,pb n m]
 | sum ps n,m=>by simp only [app,fZ,pb n m]
 | part o q n,m=>by simp [app,fZ]
theorem JK (ps:Lv)(n m:List Nat×Lv):spl ps (n.1++m.1,n.2.app m.2)=((spl ps n).1++m.1,(spl ps n).2.app m.2):=by
 unfold spl;split<;>simp [app,cI]
theorem cO:∀l m:Lv,l.fZ=true->tid (l.app m)=((tid l).1++(tid m).1,(tid l).2.app (tid m).2)
 | nil,m,_=>by simp [app,tid]
 | thr k a b o r n,m,h=>by
  simp only [app,tid,cO n m h];split
  ·simp [cI]
  ·split
   ·rfl
   ·simp [app]
 | sum ps n,m,h=>by
  simp only [app,tid,cO n m h];exact JK _ _ _
 | part ..,_,h=>by cases h
end Lv
abbrev U:=T Nat
def flat:U->List Nat×Lv
 | .nil=>([],.nil)
 | .snd a b p=>([],.thr .s a b (flat p).1 (flat p).2 .nil)
 | .rcv a x p=>([],.thr .r a x (flat p).1 (flat p).2 .nil)
 | .tau p=>([],.thr .t 0 0 (flat p).1 (flat p).2 .nil)
 | .sum p q=>([],.sum (.part (flat p).1 (flat p).2 (.part (flat q).1 (flat q).2 .nil)) .nil)
 | .par p q=>((flat p).1++(flat q).1,(flat p).2.app (flat q).2)
 | .res x p=>(x::(flat p).1,(flat p).2)
 | .mat a b p=>([],.thr .m a b (flat p).1 (flat p).2 .nil)
 | .rep p=>([],.thr .p 0 0 (flat p).1 (flat p).2 .nil)
theorem cw:∀u:U,(flat u).2.fZ=true
 | .nil=>rfl | .snd .. =>rfl | .rcv .. =>rfl | .tau .. =>rfl | .sum .. =>rfl | .mat .. =>rfl | .rep .. =>rfl
 | .res x p=>cw p
 | .par p q=>by simp [flat,Lv.pb,cw p,cw q]
def td (u:U):List Nat×Lv:=Lv.tidy (flat u).1 (flat u).2
def BV:U->List Nat
 | .nil=>[] | .snd _ _ p=>BV p | .rcv _ x p=>x::BV p | .tau p=>BV p | .sum p q=>BV p++BV q
 | .par p q=>BV p++BV q | .res x p=>x::BV p | .mat _ _ p=>BV p | .rep p=>BV p
structure Uq (u:U):Prop where
 nd:(BV u).Nodup
 nf:∀x∈BV u,¬u.Fr x
section
variable {a b x:Nat} {p q:U}
theorem Uq.snd (h:Uq (.snd a b p)):Uq p:=⟨h.nd,λx G H=>h.nf x G (.inr (.inr H))⟩
theorem Uq.mat (h:Uq (.mat a b p)):Uq p:=⟨h.nd,λx G H=>h.nf x G (.inr (.inr H))⟩
theorem Uq.tau (h:Uq (.tau p)):Uq p:=⟨h.nd,h.nf⟩
theorem Uq.rep (h:Uq (.rep p)):Uq p:=⟨h.nd,h.nf⟩
theorem Uq.rcv (h:Uq (.rcv a x p)):Uq p:=by
 have G:=PO.1 h.nd;exact⟨G.2,λy H J=>h.nf y (OZ _ H) (.inr ⟨λe=>G.1 (e▸H),J⟩)⟩
theorem Uq.res (h:Uq (.res x p)):Uq p:=by
 have G:=PO.1 h.nd;exact⟨G.2,λy H J=>h.nf y (OZ _ H) ⟨λe=>G.1 (e▸H),J⟩⟩
theorem Uq.gm (h:Uq (.res x p)):x∉BV p:=(PO.1 h.nd).1
theorem Uq.lQ (h:Uq (.rcv a x p)):x∉BV p:=(PO.1 h.nd).1
theorem Uq.gz (h:Uq (.par p q)):Uq p:=⟨(Pp.1 h.nd).1,λx G H=>h.nf x (Pm _ G) (.inl H)⟩
theorem Uq.fU (h:Uq (.par p q)):Uq q:=⟨(Pp.1 h.nd).2.1,λx G H=>h.nf x (Pf _ G) (.inr H)⟩
theorem Uq.eD (h:Uq (.sum p q)):Uq p:=⟨(Pp.1 h.nd).1,λx G H=>h.nf x (Pm _ G) (.inl H)⟩
theorem Uq.dS (h:Uq (.sum p q)):Uq q:=⟨(Pp.1 h.nd).2.1,λx G H=>h.nf x (Pf _ G) (.inr H)⟩
end
def ak:U->List Nat×List U
 | .nil=>([],[])
 | .snd a b p=>([],[.snd a b p])
 | .rcv a x p=>([],[.rcv a x p])
 | .tau p=>([],[.tau p])
 | .sum p q=>if p.dead then ak q else if q.dead then ak p else([],[.sum p q])
 | .par p q=>((ak p).1++(ak q).1,(ak p).2++(ak q).2)
 | .res x p=>(if(td p).2.has x then x::(ak p).1 else(ak p).1,(ak p).2)
 | .mat a b p=>if a=b then ak p else if p.dead then([],[])else([],[.mat a b p])
 | .rep p=>if p.dead then([],[])else([],[.rep p])
def aw:U->List U
 | .nil=>[]
 | .snd a b p=>[.snd a b p]
 | .rcv a x p=>[.rcv a x p]
 | .tau p=>[.tau p]
 | .sum p q=>aw p++aw q
 | .par p q=>if p.dead then aw q else if q.dead then aw p else [.par p q]
 | .res x p=>if(td p).2.has x then [.res x p]else aw p
 | .mat a b p=>if a=b then aw p else if p.dead then []else [.mat a b p]
 | .rep p=>if p.dead then []else [.rep p]
def tp:List U->Lv
 | []=> .nil
 | u::l=> .part (td u).1 (td u).2 (tp l)
def tl:List U->Lv
 | []=> .nil
 | .snd a b p::l=> .thr .s a b (td p).1 (td p).2 (tl l)
 | .rcv a x p::l=> .thr .r a x (td p).1 (td p).2 (tl l)
 | .tau p::l=> .thr .t 0 0 (td p).1 (td p).2 (tl l)
 | .mat a b p::l=> .thr .m a b (td p).1 (td p).2 (tl l)
 | .rep p::l=> .thr .p 0 0 (td p).1 (td p).2 (tl l)
 | .sum p q::l=> .sum (tp (aw p++aw q)) (tl l)
 | _::l=>tl l
theorem ik:∀l m:List U,tl (l++m)=(tl l).app (tl m)
 | [],m=>rfl
 | u::l,m=>by cases u<;>simp only [PI,tl,Lv.app,ik l m]
theorem ux:∀l m:List U,tp (l++m)=(tp l).app (tp m)
 | [],m=>rfl
 | u::l,m=>by simp only [PI,tp,Lv.app,ux l m]
theorem B8:∀l:List U,(tp l).len=l.length
 | []=>rfl
 | u::l=>by simp only [tp,Lv.len,OF,B8 l]
def cp (u:U):Lv:=Lv.prt (td u).1 (td u).2 .nil
theorem mP (o:List Nat)(q n:Lv):Lv.prt o q n=(Lv.prt o q .nil).app n:=by
 unfold Lv.prt;split
 ·rfl
 ·split<;>simp [Lv.app,Lv.aY]
 ·rfl
theorem r6 (u:U):(td u).2=(Lv.tid (flat u).2).2:=rfl
theorem pC (p q:U):Lv.tid (flat (.sum p q)).2=Lv.spl ((cp p).app (cp q)) ([],.nil):=by
 simp only [flat,Lv.tid]
 congr 1
 rw [mP];rfl
theorem pd (a b:Nat)(p:U):Lv.tid (flat (.mat a b p)).2=if a=b then td p else if(td p).2.isNil then([],.nil)else([],.thr .m a b (td p).1 (td p).2 .nil):=by
 have G:(Lv.kept (flat p).1 (Lv.tid (flat p).2))=td p:=rfl;simp only [flat,Lv.tid,G,Po,Lv.aY];by_cases h:a=b<;>simp [h]
theorem oY (p:U):Lv.tid (flat (.rep p)).2=if(td p).2.isNil then([],.nil)else([],.thr .p 0 0 (td p).1 (td p).2 .nil):=by
 have G:(Lv.kept (flat p).1 (Lv.tid (flat p).2))=td p:=rfl;simp only [flat,Lv.tid,G];simp
theorem bN:∀u:U,((td u).2.len=0↔u.dead=true)/\((cp u).len=0↔u.dead=true)/\(td u).2.fZ=true/\(∀ps,(td u).2= .sum ps .nil->2<=ps.len):=by
 intro u;have α:∀u:U,(((td u).2.len=0↔u.dead=true)/\(td u).2.fZ=true/\(∀ps,(td u).2= .sum ps .nil->2<=ps.len))->((cp u).len=0↔u.dead=true):=by
  intro u ⟨h,_,h2⟩;rw [<-h];unfold cp Lv.prt;split
  ·rename_i e;rw [e]
  ·rename_i ps e;have :=h2 ps e;rw [e];split<;>simp [Lv.len,Lv.eN]<;>omega
  ·rename_i e1 e2;cases e:(td u).2<;>simp [Lv.len]
   exact e1 e
 suffices h:((td u).2.len=0↔u.dead=true)/\(td u).2.fZ=true/\(∀ps,(td u).2= .sum ps .nil->2<=ps.len)from⟨h.1,α u h,h.2⟩
 induction u with
 | nil=>simp [r6,flat,Lv.tid,Lv.len,T.dead,Lv.fZ]
 | snd a b p G=>simp [r6,flat,Lv.tid,Lv.len,T.dead,Lv.fZ]
 | rcv a b p G=>simp [r6,flat,Lv.tid,Lv.len,T.dead,Lv.fZ]
 | tau p G=>simp [r6,flat,Lv.tid,Lv.len,T.dead,Lv.fZ]
 | res x p G=>exact G
 | par p q G H=>
  have e:(td (.par p q)).2=(td p).2.app (td q).2:=by simp only [r6,flat,Lv.cO _ _ (cw p)]
  rw [e];refine⟨?_,?_,λps W=>?_⟩
  ·rw [Lv.eN,T.dead,OJ,<-G.1,<-H.1];omega
  ·rw [Lv.pb,G.2.1,H.2.1];rfl
  ·cases h:(td p).2 with
   | nil=>rw [h]at W;exact H.2.2 ps W
   | thr=>rw [h]at W;cases W
   | part=>rw [h]at W;cases W
   | sum δ n=>
    rw [h]at W;simp only [Lv.app,Lv.sum.injEq]at W;obtain⟨rfl,hn⟩:=W;have:n= .nil:=by
     cases n<;>simp [Lv.app]at hn
     rfl
    subst this;exact G.2.2 _ h
 | mat a b p G=>
  rw [r6,pd,Lv.dy];by_cases β:a=b
  ·rw [Pj β];exact G
  ·rw [O1 β];by_cases hd:(td p).2.len=0
   ·simp only [hd,decide_true,Qw,Lv.len,T.dead,G.1.1 hd,Lv.fZ,QS];intro ps h;cases h
   ·have:p.dead=false:=by
     cases h:p.dead with
     | false=>rfl
     | true=>exact absurd (G.1.2 h) hd
    simp [hd,Lv.len,T.dead,this,Lv.fZ]
 | rep p G=>
  rw [r6,oY,Lv.dy];by_cases hd:(td p).2.len=0
  ·simp only [hd,decide_true,Qw,Lv.len,T.dead,G.1.1 hd,Lv.fZ,QS];intro ps h;cases h
  ·have:p.dead=false:=by
    cases h:p.dead with
    | false=>rfl
    | true=>exact absurd (G.1.2 h) hd
   simp [hd,Lv.len,T.dead,this,Lv.fZ]
 | sum p q G H=>
  have h1:=α p G;have h2:=α q H;rw [r6,pC];have hlen:((cp p).app (cp q)).len=0↔(T.sum p q).dead=true:=by
   rw [Lv.eN,T.dead,OJ,<-h1,<-h2];omega
  have Z:∀u:U,(((td u).2.len=0↔u.dead=true)/\(td u).2.fZ=true/\(∀ps,(td u).2= .sum ps .nil->2<=ps.len))->∀o r,cp u= .part o r .nil->o=(td u).1/\r=(td u).2/\r.len≠0:=by
   intro u ⟨h,h3,h4⟩ o r he;unfold cp Lv.prt at he;split at he
   ·cases he
   ·rename_i ps e;split at he
    ·rw [Lv.aY]at he;have :=h4 ps e;rw [he]at this;simp [Lv.len]at this
    ·cases he;exact⟨rfl,rfl,by rw [e];simp [Lv.len]⟩
   ·rename_i e1 e2;cases he;refine⟨rfl,rfl,λJ=>e1 ?_⟩;cases e:(td u).2<;>rw [e]at J<;>first | rfl | (simp [Lv.len]at J)
  unfold Lv.spl;split
  ·rename_i e;rw [e]at hlen;simp only [Lv.len,true_iff]at hlen;simp [Lv.len,hlen,Lv.fZ]
  ·rename_i o r e;have hl:(T.sum p q).dead=false:=by
    cases h:(T.sum p q).dead with
    | false=>rfl
    | true=>rw [<-hlen,e]at h;simp [Lv.len]at h
   simp only [Lv.aY,hl];have key:(cp p= .nil/\cp q= .part o r .nil)\/(cp p= .part o r .nil/\cp q= .nil):=by
    cases hc:cp p with
    | nil=>rw [hc]at e;exact .inl ⟨rfl,e⟩
    | thr=>rw [hc]at e;cases e
    | sum=>rw [hc]at e;cases e
    | part o' r' n=>
     rw [hc]at e;simp only [Lv.app,Lv.part.injEq]at e;obtain⟨rfl,rfl,e⟩:=e;cases n<;>simp only [Lv.app]at e
     ·exact .inr ⟨rfl,e⟩
     all_goals cases e
   rcases key with⟨_,hc⟩ | ⟨hc,_⟩
   ·obtain⟨_,rfl,J⟩:=Z q H o r hc;exact⟨by simp [J],H.2.1,H.2.2⟩
   ·obtain⟨_,rfl,J⟩:=Z p G o r hc;exact⟨by simp [J],G.2.1,G.2.2⟩
  ·rename_i ps e1 e2;have γ:((cp p).app (cp q)).len≠0:=by
    intro J;apply e1;cases h:(cp p).app (cp q)<;>rw [h]at J<;>first | rfl | (simp [Lv.len]at J)
   have hl:(T.sum p q).dead=false:=by
    cases h:(T.sum p q).dead with
    | false=>rfl
    | true=>exact absurd (hlen.2 h) γ
   refine⟨by simp [Lv.len,hl],rfl,λδ W=>?_⟩;simp only [Lv.sum.injEq,Rp]at W;subst W;have V:∀u:U,(((td u).2.len=0↔u.dead=true)/\(td u).2.fZ=true/\(∀ps,(td u).2= .sum ps .nil->2<=ps.len))->(cp u).len=1->∃o r,cp u= .part o r .nil:=by
    intro u ⟨h,h3,h4⟩ hl;unfold cp Lv.prt at hl|-;split at hl
    ·simp [Lv.len]at hl
    ·rename_i ps e;split at hl
     ·rw [Lv.aY]at hl;have :=h4 ps e;omega
     ·rename_i hh;rw [O1 hh];exact⟨_,_,rfl⟩
    ·exact⟨_,_,rfl⟩
   rw [Lv.eN]at γ|-;rcases Qn 1 ((cp p).len+(cp q).len)with h | h
   ·omega
   ·exfalso;rcases Re (cp p).len with J | J
    ·obtain⟨o,r,hc⟩:=V q H (by omega);have:cp p= .nil:=by cases hh:cp p<;>rw [hh]at J<;>first | rfl | (simp [Lv.len]at J)
     exact e2 o r (by rw [this,hc];rfl)
    ·obtain⟨o,r,hc⟩:=V p G (by omega);have:cp q= .nil:=by
      have J:(cp q).len=0:=by omega
      cases hh:cp q<;>rw [hh]at J<;>first | rfl | (simp [Lv.len]at J)
     exact e2 o r (by rw [this,hc];rfl)
theorem KL (x:Nat)(ps:Lv)(n:List Nat×Lv):(Lv.spl ps n).2.has x=(ps.has x||n.2.has x):=by
 unfold Lv.spl;split<;>simp [Lv.has,Lv.dk]
theorem JD (x:Nat)(o:List Nat)(q n:Lv):(Lv.prt o q n).has x=(q.has x||n.has x):=by
 unfold Lv.prt;split
 ·simp [Lv.has]
 ·split<;>simp [Lv.has,Lv.dk]
 ·simp [Lv.has]
theorem H4 (x:Nat)(u:U):(cp u).has x=(td u).2.has x:=by
 simp [cp,JD,Lv.has]
theorem lZ (u:U):u.dead=false↔(td u).2.len≠0:=by
 rw [Ne,(bN u).1];simp
theorem gV {l:Lv}(h:l.len=0):l= .nil:=by
 cases l<;>first | rfl | (simp [Lv.len]at h)
theorem mK {u:U}(h:u.dead=true):(td u).2= .nil:=gV ((bN u).1.2 h)
theorem dJ (u:U):(td u).2.isNil=u.dead:=by
 rw [Lv.dy];cases h:u.dead with
 | true=>simp [(bN u).1.2 h]
 | false=>simpa using(lZ u).1 h
theorem gk:∀(u:U) (x:Nat),x∉BV u->((td u).2.has x=true↔u.Us x):=by
 intro u
 induction u with
 | nil=>intro x _;simp [r6,flat,Lv.tid,Lv.has,T.Us]
 | snd a b p H=>
  intro x J;have Z:(Lv.kept (flat p).1 (Lv.tid (flat p).2))=td p:=rfl;have :=H x J;simp [r6,flat,Lv.tid,Lv.has,T.Us,Z];rw [<-r6,this,<-RF,eq_comm (a:=a),eq_comm (a:=b)]
 | rcv a y p H=>
  intro x J;have G:x≠y/\x∉BV p:=by simpa [BV]using J
  have Z:(Lv.kept (flat p).1 (Lv.tid (flat p).2))=td p:=rfl;have :=H x G.2;simp [r6,flat,Lv.tid,Lv.has,T.Us,Z,G.1];rw [<-r6,this,eq_comm (a:=a)];simp [R2 G.1]
 | tau p H=>
  intro x J;have Z:(Lv.kept (flat p).1 (Lv.tid (flat p).2))=td p:=rfl;simp [r6,flat,Lv.tid,Lv.has,T.Us,Z];rw [<-r6,H x J]
 | sum p q H W=>
  intro x J;have G:x∉BV p/\x∉BV q:=by simpa [BV]using J
  rw [r6,pC,KL,Lv.dk,H4,H4];simp [T.Us,Lv.has,H x G.1,W x G.2]
 | par p q H W=>
  intro x J;have G:x∉BV p/\x∉BV q:=by simpa [BV]using J
  have e:(td (.par p q)).2=(td p).2.app (td q).2:=by simp only [r6,flat,Lv.cO _ _ (cw p)]
  rw [e,Lv.dk];simp [T.Us,H x G.1,W x G.2]
 | res y p H=>
  intro x J;have G:x≠y/\x∉BV p:=by simpa [BV]using J
  show(td p).2.has x=true↔_;simp [T.Us,H x G.2,G.1]
 | mat a b p H=>
  intro x J;have :=H x J;rw [r6,pd];by_cases V:a=b
  ·subst V;simp [T.Us,this]
  ·rw [O1 V,dJ];cases hd:p.dead with
   | true=>simp [Lv.has,T.Us,hd,V]
   | false=>
    simp [Lv.has,T.Us,hd,V,this];rw [<-RF,eq_comm (a:=a),eq_comm (a:=b)]
 | rep p H=>
  intro x J;rw [r6,oY,dJ];cases hd:p.dead with
  | true=>simp [Lv.has,T.Us];exact T.bK hd
  | false=>simp [Lv.has,T.Us,H x J]
theorem qe (own:List Nat)(r:List Nat×Lv):Lv.kept [] (Lv.kept own r)=Lv.kept own r:=by
 simp [Lv.kept,List.filter_filter]
theorem Im (u:U):Lv.spl (cp u) ([],.nil)=td u:=by
 have G:=(bN u).2.2.2;have V:=(bN u).2.2.1;have H:(td u).2= .nil->(td u).1=[]:=by
  intro e;show List.filter (λx=>(td u).2.has x) _=[];rw [e];simp [Lv.has]
 unfold cp Lv.prt;split
 ·rename_i e;simp only [Lv.spl];exact Prod.ext (H e).symm e.symm
 ·rename_i ps e;split
  ·rename_i J;rw [Lv.aY];have :=G ps e;unfold Lv.spl;split
   ·simp [Lv.len]at this
   ·simp [Lv.len]at this
   ·exact Prod.ext (by simpa using J.symm) e.symm
  ·simp [Lv.spl,Lv.aY]
 ·simp [Lv.spl,Lv.aY]
theorem filter_false {l:List Nat}{f:Nat->Bool}(h:∀x∈l,f x=false):l.filter f=[]:=by
 simpa [List.filter_eq_nil_iff]using h
def Lv.WO:Lv->Prop
 | .nil=>True
 | .thr _ _ _ o r n=>(∀x∈o,r.has x=true)/\r.WO/\n.WO
 | .sum ps n=>ps.WO/\n.WO
 | .part o q n=>(∀x∈o,q.has x=true)/\q.WO/\n.WO
theorem qW:∀l m:Lv,(l.app m).WO↔l.WO/\m.WO
 | .nil,m=>by simp [Lv.app,Lv.WO]
 | .thr k a b o r n,m=>by simp only [Lv.app,Lv.WO,qW n m,Q4]
 | .sum ps n,m=>by simp only [Lv.app,Lv.WO,qW n m,Q4]
 | .part o q n,m=>by simp only [Lv.app,Lv.WO,qW n m,Q4]
theorem uf (own:List Nat)(r:List Nat×Lv):∀x∈(Lv.kept own r).1,(Lv.kept own r).2.has x=true:=by
 intro y G;simp only [Lv.kept,QK]at G;exact G.2
theorem LP {o:List Nat}{q n:Lv}(h:∀x∈o,q.has x=true)(H:q.WO)(G:n.WO):(Lv.prt o q n).WO:=by
 unfold Lv.prt;split
 ·exact G
 ·split
  ·exact(qW _ _).2 ⟨H.1,G⟩
  ·exact⟨h,H,G⟩
 ·exact⟨h,H,G⟩
theorem Eo:∀(l:Lv),(Lv.tid l).2.WO/\∀x∈(Lv.tid l).1,(Lv.tid l).2.has x=true:=by
 intro l
 induction l with
 | nil=>exact⟨trivial,λx H=>by simp [Lv.tid]at H⟩
 | thr k a b o r n V G=>
  have Z:=uf o (Lv.tid r);simp only [Lv.tid];split
  ·refine⟨(qW _ _).2 ⟨V.1,G.1⟩,λx H=>?_⟩;simp only [OS]at H;rw [Lv.dk];rcases H with H | H
   ·simp [Z x H]
   ·simp [G.2 x H]
  ·split
   ·exact G
   ·refine⟨⟨Z,V.1,G.1⟩,λx H=>?_⟩;simp [Lv.has,G.2 x H]
 | sum ps n J G=>
  simp only [Lv.tid];unfold Lv.spl;split
  ·exact G
  ·rename_i o q e;rw [e]at J;refine⟨(qW _ _).2 ⟨J.1.2.1,G.1⟩,λx H=>?_⟩;simp only [OS]at H;rw [Lv.dk];rcases H with H | H
   ·simp [J.1.1 x H]
   ·simp [G.2 x H]
  ·exact⟨⟨J.1,G.1⟩,λx H=>by simp [Lv.has,G.2 x H]⟩
 | part o q n W G=>
  simp only [Lv.tid];exact⟨LP (uf o _) W.1 G.1,λx H=>by simp at H⟩
theorem xt:∀(u:U),(∀x∈(flat u).1,x∈BV u)/\∀x∈(Lv.tid (flat u).2).1,x∈BV u:=by
 intro u;have V:∀u:U,((∀x∈(flat u).1,x∈BV u)/\∀x∈(Lv.tid (flat u).2).1,x∈BV u)->∀x∈(td u).1,x∈BV u:=by
  intro u h x G;have G:x∈(Lv.kept (flat u).1 (Lv.tid (flat u).2)).1:=G;simp only [Lv.kept,QK,OS]at G;exact G.1.elim (h.1 x) (h.2 x)
 have Z:∀u:U,(∀x∈(td u).1,x∈BV u)->∀o q n,cp u= .part o q n->(2<=(cp u).len)\/∀x∈o,x∈BV u:=by
  intro u h o q n e;have h1:=(bN u).2.2.2;unfold cp Lv.prt at e|-;split at e
  ·cases e
  ·rename_i ps e';split at e
   ·rename_i hh;rw [Pj hh];left;rw [Lv.aY];exact h1 ps e'
   ·cases e;exact .inr h
  ·cases e;exact .inr h
 induction u with
 | nil=>simp [flat,Lv.tid]
 | snd a b p H=>simp [flat,Lv.tid]
 | rcv a x p H=>simp [flat,Lv.tid]
 | tau p H=>simp [flat,Lv.tid]
 | rep p H=>rw [oY];split<;>simp [flat]
 | mat a b p H=>
  rw [pd];refine⟨by simp [flat],?_⟩;split
  ·exact V p H
  ·split<;>simp
 | res x p H=>
  refine⟨λy W=>?_,λy W=>OZ _ (H.2 y W)⟩;simp only [flat,O4]at W;rcases W with rfl | W
  ·exact Py ..
  ·exact OZ _ (H.1 y W)
 | par p q H J=>
  simp only [flat,Lv.cO _ _ (cw p),OS,BV];exact⟨λx G=>G.imp (H.1 x) (J.1 x),λx G=>G.imp (H.2 x) (J.2 x)⟩
 | sum p q H J=>
  refine⟨by simp [flat],?_⟩;rw [pC];intro x G;unfold Lv.spl at G;split at G
  ·simp at G
  ·rename_i o r e;simp only [Po]at G;simp only [BV,OS];have hl:=PS Lv.len e;rw [Lv.eN]at hl;simp only [Lv.len]at hl;rcases Re (cp p).len with h0 | h0
   ·rw [gV h0]at e;rcases Z q (V q J) o r .nil e with h | h
    ·omega
    ·exact .inr (h x G)
   ·have:cp q= .nil:=gV (by omega);rw [this,Lv.aY]at e;rcases Z p (V p H) o r .nil e with h | h
    ·omega
    ·exact .inl (h x G)
  ·simp at G
theorem Nz (u:U):(td u).1=((flat u).1++(Lv.tid (flat u).2).1).filter λx=>(td u).2.has x:=rfl
theorem Eh {u:U}{x:Nat}(hb:x∉BV u)(G:¬u.Fr x):(td u).2.has x=false:=by
 cases h:(td u).2.has x with
 | false=>rfl
 | true=>exact absurd (T.bI ((gk u x hb).1 h)) G
theorem Ic {l:List U}(h:(tp l).len=0):l=[]:=by
 rw [B8]at h;exact Pg h
theorem uC (a b c d:List Nat):((a++b)++(c++d)).Perm ((a++c)++(b++d)):=by
 rw [Pv,Pv];refine List.Perm.append_left a ?_;rw [<-Pv,<-Pv];exact List.Perm.append_right d QV
theorem gu:∀u:U,Uq u->(td u).2=tl (ak u).2/\(td u).1.Perm (ak u).1/\cp u=tp (aw u):=by
 intro u
 induction u with
 | nil=>intro _;simp [td,Lv.tidy,Lv.kept,flat,Lv.tid,ak,tl,cp,Lv.prt,aw,tp]
 | snd a b p H=>
  intro h;have hk:(Lv.kept (flat p).1 (Lv.tid (flat p).2))=td p:=rfl;have e:td (.snd a b p)=([],.thr .s a b (td p).1 (td p).2 .nil):=by simp [td,Lv.tidy,flat,Lv.tid,Lv.kept]
  refine⟨by rw [e];rfl,by rw [e];exact PW _,?_⟩;rw [cp,aw,tp,e];rfl
 | rcv a x p H=>
  intro h;have e:td (.rcv a x p)=([],.thr .r a x (td p).1 (td p).2 .nil):=by simp [td,Lv.tidy,flat,Lv.tid,Lv.kept]
  refine⟨by rw [e];rfl,by rw [e];exact PW _,?_⟩;rw [cp,aw,tp,e];rfl
 | tau p H=>
  intro h;have e:td (.tau p)=([],.thr .t 0 0 (td p).1 (td p).2 .nil):=by simp [td,Lv.tidy,flat,Lv.tid,Lv.kept]
  refine⟨by rw [e];rfl,by rw [e];exact PW _,?_⟩;rw [cp,aw,tp,e];rfl
 | rep p H=>
  intro h;have e:td (.rep p)=if p.dead then([],.nil)else([],.thr .p 0 0 (td p).1 (td p).2 .nil):=by
   show Lv.kept [] _=_;rw [oY,dJ];split<;>simp [Lv.kept]
  unfold cp;rw [e,ak,aw];split
  ·exact⟨rfl,PW _,rfl⟩
  ·rename_i hd;rw [O1 hd]at e;refine⟨rfl,PW _,?_⟩;rw [tp,e];rfl
 | mat a b p H=>
  intro h;have e:td (.mat a b p)=if a=b then td p else if p.dead then([],.nil)else([],.thr .m a b (td p).1 (td p).2 .nil):=by
   show Lv.kept [] _=_;rw [pd,dJ];split
   ·exact qe _ _
   ·split<;>simp [Lv.kept]
  have H:=H h.mat;unfold cp;rw [e,ak,aw];split
  ·exact H
  ·rename_i κ;rw [O1 κ]at e;split
   ·exact⟨rfl,PW _,rfl⟩
   ·rename_i hd;rw [O1 hd]at e;refine⟨rfl,PW _,?_⟩;rw [tp,e];rfl
 | res x p H=>
  intro h;obtain⟨h1,h2,Z⟩:=H h.res;have J:(td (.res x p)).2=(td p).2:=rfl;have V:(td (.res x p)).1=if(td p).2.has x then x::(td p).1 else(td p).1:=by
   rw [Nz,J];simp only [flat,PI,List.filter_cons];rfl
  refine⟨by rw [J];exact h1,?_,?_⟩
  ·rw [V,ak];split
   ·exact List.Perm.cons x h2
   ·exact h2
  ·rw [aw];split
   ·rename_i G;rw [Pj G]at V;unfold cp Lv.prt;rw [tp,tp];split
    ·rename_i e;rw [J]at e;rw [e]at G;cases G
    ·rename_i ps e;rw [V];rw [O1 (by simp)]
    ·rw [V]
   ·rename_i G;rw [O1 G]at V;rw [<-Z,cp,cp,V,J]
 | par p q H α=>
  intro h;obtain⟨h1,h2,Z⟩:=H h.gz;obtain⟨k1,k2,k3⟩:=α h.fU;have J:(td (.par p q)).2=(td p).2.app (td q).2:=by simp only [r6,flat,Lv.cO _ _ (cw p)]
  have V:(td (.par p q)).1=(((flat p).1++(flat q).1)++((Lv.tid (flat p).2).1++(Lv.tid (flat q).2).1)).filter λx=>(td p).2.has x||(td q).2.has x:=by
   rw [Nz,J];simp only [flat,Lv.cO _ _ (cw p)];exact Q5 λx _=>Lv.dk x _ _
  have ζ:=Pp.1 h.nd;have η:∀x,x∈BV p->(td q).2.has x=false:=λx G=>Eh (λhq=>ζ.2.2 x G x hq rfl) λhf=>h.nf x (Pm _ G) (.inr hf)
  have θ:∀x,x∈BV q->(td p).2.has x=false:=λx G=>Eh (λhq=>ζ.2.2 x hq x G rfl) λhf=>h.nf x (Pf _ G) (.inl hf)
  have ι:((flat p).1++(Lv.tid (flat p).2).1).filter (λx=>(td p).2.has x||(td q).2.has x)=(td p).1:=by
   rw [Nz];refine Q5 λx G=>?_
   rw [η x ((OS.1 G).elim ((xt p).1 x) ((xt p).2 x)),Q8]
  have β:((flat q).1++(Lv.tid (flat q).2).1).filter (λx=>(td p).2.has x||(td q).2.has x)=(td q).1:=by
   rw [Nz];refine Q5 λx G=>?_
   rw [θ x ((OS.1 G).elim ((xt q).1 x) ((xt q).2 x)),Rq]
  refine⟨by rw [J,h1,k1,ak,ik],?_,?_⟩
  ·rw [V,ak];refine((uC _ _ _ _).filter _).trans ?_;rw [Qy,ι,β];exact h2.append k2
  ·rw [aw];split
   ·rename_i hd;have ep:=mK hd;have μ:(Lv.tid (flat p).2).1=[]:=by
     refine QW.2 λx G=>?_
     have :=(Eo (flat p).2).2 x G;rw [<-r6,ep]at this;cases this
    have W:(flat p).1.filter (λx=>(td p).2.has x||(td q).2.has x)=[]:=filter_false λx G=>by
     rw [ep,η x ((xt p).1 x G)];rfl
    rw [<-k3,cp,cp,V,J,ep];rw [μ,PG,Pv,Qy];rw [ep]at W β;rw [W,PG,β];rfl
   ·split
    ·rename_i hd;have γ:=mK hd;have ν:(Lv.tid (flat q).2).1=[]:=by
      refine QW.2 λx G=>?_
      have :=(Eo (flat q).2).2 x G;rw [<-r6,γ]at this;cases this
     have W:(flat q).1.filter (λx=>(td p).2.has x||(td q).2.has x)=[]:=filter_false λx G=>by
      rw [γ,θ x ((xt q).1 x G)];rfl
     rw [<-Z,cp,cp,V,J,ν,Po,Qy,Qy,W,Po,<-Qy,ι,γ,Lv.aY]
    ·rename_i δ ε;have l1:=(lZ p).1 (by simpa using δ);have l2:=(lZ q).1 (by simpa using ε);have hl:2<=(td (.par p q)).2.len:=by rw [J,Lv.eN];omega
     unfold cp Lv.prt;rw [tp,tp];split
     ·rename_i e;rw [e]at hl;simp [Lv.len]at hl
     ·rename_i ps e;rw [e]at hl;simp [Lv.len]at hl
     ·rfl
 | sum p q H α=>
  intro h;obtain⟨h1,h2,Z⟩:=H h.eD;obtain⟨k1,k2,k3⟩:=α h.dS;have e:td (.sum p q)=if p.dead then td q else if q.dead then td p else([],.sum (tp (aw p++aw q)) .nil):=by
   show Lv.kept [] _=_;rw [pC];split
   ·rename_i hd;rw [gV ((bN p).2.1.2 hd)];show Lv.kept [] (Lv.spl (cp q) ([],.nil))=_;rw [Im];exact qe _ _
   ·rename_i δ;split
    ·rename_i hd;rw [gV ((bN q).2.1.2 hd),Lv.aY,Im];exact qe _ _
    ·rename_i ε;have l1:(cp p).len≠0:=λe=>δ ((bN p).2.1.1 e)
     have l2:(cp q).len≠0:=λe=>ε ((bN q).2.1.1 e)
     rw [Z,k3,<-ux]at*;have:2<=(tp (aw p++aw q)).len:=by rw [ux,Lv.eN];omega
     unfold Lv.spl;split
     ·rename_i e;rw [e]at this;simp [Lv.len]at this
     ·rename_i e;rw [e]at this;simp [Lv.len]at this
     ·simp [Lv.kept]
  unfold cp;rw [e,ak,aw];split
  ·rename_i hd;have:aw p=[]:=Ic (by rw [<-Z];exact(bN p).2.1.2 hd);rw [this,PG];exact⟨k1,k2,k3⟩
  ·split
   ·rename_i hd;have:aw q=[]:=Ic (by rw [<-k3];exact(bN q).2.1.2 hd);rw [this,Po];exact⟨h1,h2,Z⟩
   ·exact⟨rfl,PW _,by simp [Lv.prt,Lv.aY]⟩
abbrev Tx:=List UInt8
def T.text:T UInt8->Tx
 | .nil=>[48]
 | .snd a b p=>a::33::b::46::p.text
 | .rcv a x p=>a::63::x::46::p.text
 | .tau p=>126::46::p.text
 | .sum p q=>40::(p.text++(43::(q.text++[41])))
 | .par p q=>40::(p.text++(38::(q.text++[41])))
 | .res x p=>35::x::46::p.text
 | .mat a b p=>91::a::61::b::93::p.text
 | .rep p=>42::p.text
def jJ (s t:Tx):Bool:=decide (s<=t)
theorem gU (a b c:Tx)(h:jJ a b=true)(k:jJ b c=true):jJ a c=true:=by
 simp only [jJ,OW]at*;exact List.le_trans h k
theorem qP (a b:Tx):(jJ a b||jJ b a)=true:=by
 simp only [jJ,Qg,OW];exact List.le_total a b
theorem AW (a b:Tx)(h:jJ a b=true)(k:jJ b a=true):a=b:=by
 simp only [jJ,OW]at*;exact List.le_antisymm h k
def a6 (l:List Tx):List Tx:=l.mergeSort jJ
theorem aR (l:List Tx):(a6 l).Perm l:=List.mergeSort_perm l jJ
theorem jT (l:List Tx):(a6 l).Pairwise (λa b=>jJ a b=true):=List.pairwise_mergeSort gU qP l
theorem uQ {l m:List Tx}(hm:m.Pairwise (λa b=>jJ a b=true))(G:m.Perm l):a6 l=m:=
 List.Perm.eq_of_pairwise (λa b _ _=>AW a b) (jT l) hm ((aR l).trans G.symm)
theorem lK {l m:List Tx}(h:l.Perm m):a6 l=a6 m:=uQ (jT m) ((aR m).trans h.symm)
def joinS (sign:UInt8):List Tx->Tx
 | []=>[]
 | [s]=>s
 | s::l=>40::(s++(sign::(joinS sign l++[41])))
def bO (l:List Tx):Tx:=(a6 l).headD []
theorem cL {l:List Tx}(h:l≠[]):bO l∈l/\∀s∈l,jJ (bO l) s=true:=by
 have G:=aR l;have H:=jT l;unfold bO;cases e:a6 l with
 | nil=>rw [e]at G;exact absurd G.symm.eq_nil h
 | cons a r=>
  rw [e]at G H;refine⟨G.subset (Py ..),λs hm=>?_⟩;have :=G.symm.subset hm;rcases O4.1 this with rfl | hr
  ·simp [jJ]
  ·exact(QX.1 H).1 s hr
theorem gM {l:List Tx}{r:Tx}(h:r∈l)(H:∀s∈l,jJ r s=true):bO l=r:=by
 have G:l≠[]:=λe=>by rw [e]at h;cases h
 obtain⟨J,h2⟩:=cL G;exact AW _ _ (h2 r h) (H _ J)
theorem pk {l m:List Tx}(h:∀s,s∈l↔s∈m):bO l=bO m:=by
 by_cases H:l=[]
 ·subst H;have:m=[]:=QW.2 λs G=>by have :=(h s).2 G;cases this
  rw [this]
 ·have hm:m≠[]:=λe=>H (QW.2 λs G=>by have :=(h s).1 G;rw [e]at this;cases this)
  obtain⟨J,h2⟩:=cL hm;exact gM ((h _).2 J) λs G=>h2 s ((h s).1 G)
theorem Jz (h:Tx)(s t:Tx):jJ (h++s) (h++t)=jJ s t:=by
 unfold jJ
 congr 1
 induction h with
 | nil=>rfl
 | cons a h G=>simp only [PI,List.cons_le_cons_iff,RG,QS,Sc,G]
theorem uc (h:Tx){l:List Tx}(G:l≠[]):bO (l.map (h++·))=h++bO l:=by
 obtain⟨H,h2⟩:=cL G;refine gM (Qo H) λs J=>?_
 obtain⟨t,V,rfl⟩:=Pw.1 J;rw [Jz];exact h2 t V
def ins {α:Type}(x:α):List α->List (List α)
 | []=>[[x]]
 | y::l=>(x::y::l)::(ins x l).map (y::·)
def perms {α:Type}:List α->List (List α)
 | []=>[[]]
 | x::l=>(perms l).flatMap (ins x)
theorem sn {α:Type}(x:α):∀(l m:List α),m∈ins x l↔∃s t,l=s++t/\m=s++x::t
 | [],m=>by
  simp only [ins,OO];constructor
  ·rintro rfl;exact⟨[],[],rfl,rfl⟩
  ·rintro⟨s,t,e,rfl⟩
   obtain⟨rfl,rfl⟩:=List.append_eq_nil_iff.1 e.symm;rfl
 | y::l,m=>by
  simp only [ins,O4,Pw];constructor
  ·rintro(rfl | ⟨m',hm,rfl⟩)
   ·exact⟨[],y::l,rfl,rfl⟩
   ·obtain⟨s,t,rfl,rfl⟩:=(sn x l m').1 hm;exact⟨y::s,t,rfl,rfl⟩
  ·rintro⟨s,t,e,rfl⟩
   cases s with
   | nil=>simp only [PG]at e;subst e;exact .inl rfl
   | cons z s=>
    simp only [PI,PC]at e;obtain⟨rfl,rfl⟩:=e;exact .inr ⟨s++x::t,(sn x _ _).2 ⟨s,t,rfl,rfl⟩,rfl⟩
theorem db {α:Type}:∀(l m:List α),m∈perms l↔m.Perm l
 | [],m=>by simp [perms]
 | x::l,m=>by
  simp only [perms,PE];constructor
  ·rintro⟨m',G,h2⟩
   obtain⟨s,t,rfl,rfl⟩:=(sn x m' m).1 h2;exact Rw.trans (List.Perm.cons x ((db l _).1 G))
  ·intro h;obtain⟨s,t,rfl⟩:=List.append_of_mem (h.symm.subset (Py ..));exact⟨s++t,(db l _).2 ((Sd x).1 (Rw.symm.trans h)),(sn x _ _).2 ⟨s,t,rfl,rfl⟩⟩
theorem pc {α:Type}(l:List α):perms l≠[]:=λe=>by
 have :=(db l l).2 (PW l);rw [e]at this;cases this
def nA:List UInt8:=(List.range 26).map λi=>UInt8.ofNat (97+i)
abbrev Tk:=UInt8->Bool
def vF (tk:Tk):Option UInt8:=nA.find? λc=> !tk c
def iV (tk:Tk):UInt8:=(vF tk).getD 122
def cz (tk:Tk)(c:UInt8):Tk:=λd=>tk d||d==c
def lets:Nat->Tk->List UInt8
 | 0,_=>[]
 | n+1,tk=>iV tk::lets n (cz tk (iV tk))
def addK:List UInt8->Tk->Tk
 | [],tk=>tk
 | c::l,tk=>addK l (cz tk c)
def gI:Nat->Tk->Bool
 | 0,_=>false
 | n+1,tk=>(vF tk).isNone||gI n (cz tk (iV tk))
abbrev Rh:=Nat->UInt8
def asg:List Nat->List UInt8->Rh->Rh
 | x::π,c::l,ρ=>asg π l (aI ρ x c)
 | _,_,ρ=>ρ
def wrap:List UInt8->Tx->Tx
 | [],s=>s
 | c::l,s=>35::c::46::wrap l s
theorem z8 (l:List UInt8)(s:Tx):wrap l s=wrap l []++s:=by
 induction l with
 | nil=>rfl
 | cons c l G=>rw [wrap,G,wrap];rfl
theorem fO:∀(n:Nat) (tk:Tk),(lets n tk).length=n
 | 0,_=>rfl
 | n+1,tk=>by rw [lets,OF,fO]
def aU (own:List Nat)(f:Rh->Tk->List Tx)(ρ:Rh)(tk:Tk):Tx:=
 if(f ρ tk).isEmpty then [48]else
 let ls:=lets own.length tk
 wrap ls (bO ((perms own).map λπ=>joinS 38 (a6 (f (asg π ls ρ) (addK ls tk)))))
def kText (k:K)(a b:UInt8)(rest:Tx):Tx:=match k with
 | .s=>a::33::b::46::rest
 | .r=>a::63::b::46::rest
 | .t=>126::46::rest
 | .m=>91::(if b< a then b else a)::61::(if b< a then a else b)::93::rest
 | .p=>42::rest
def thS:Lv->Rh->Tk->List Tx
 | .nil,_,_=>[]
 | .thr k a b o r n,ρ,tk=>(match k with
   | .r=>kText .r (ρ a) (iV tk) (aU o (thS r) (aI ρ b (iV tk)) (cz tk (iV tk)))
   | k=>kText k (ρ a) (ρ b) (aU o (thS r) ρ tk))::thS n ρ tk
 | .sum ps n,ρ,tk=>joinS 43 (a6 (thS ps ρ tk))::thS n ρ tk
 | .part o q n,ρ,tk=>aU o (thS q) ρ tk::thS n ρ tk
def gg (n:Nat)(nl:Bool)(f:Tk->Bool)(tk:Tk):Bool:= !nl&&(gI n tk||f (addK (lets n tk) tk))
def thBad:Lv->Tk->Bool
 | .nil,_=>false
 | .thr k _ _ o r n,tk=>(match k with
   | .r=>(vF tk).isNone||gg o.length r.isNil (thBad r) (cz tk (iV tk))
   | _=>gg o.length r.isNil (thBad r) tk)||thBad n tk
 | .sum ps n,tk=>thBad ps tk||thBad n tk
 | .part o q n,tk=>gg o.length q.isNil (thBad q) tk||thBad n tk
def thAll:Lv->Nat
 | .nil=>0
 | .thr _ _ _ o r n=>o.length+thAll r+thAll n
 | .sum ps n=>thAll ps+thAll n
 | .part o q n=>o.length+thAll q+thAll n
def ax:Lv->Nat
 | .nil=>0
 | .thr _ _ _ o r n=>max (max o.length (ax r)) (ax n)
 | .sum ps n=>max (ax ps) (ax n)
 | .part o q n=>max (max o.length (ax q)) (ax n)
theorem bG:∀(l:Lv) (ρ:Rh) (tk:Tk),(thS l ρ tk).length=l.len
 | .nil,_,_=>rfl
 | .thr k a b o r n,ρ,tk=>by simp only [thS,OF,bG n,Lv.len]
 | .sum ps n,ρ,tk=>by rw [thS,OF,bG n,Lv.len]
 | .part o q n,ρ,tk=>by rw [thS,OF,bG n,Lv.len]
theorem gL:∀(l m:Lv) (ρ:Rh) (tk:Tk),thS (l.app m) ρ tk=thS l ρ tk++thS m ρ tk
 | .nil,_,_,_=>rfl
 | .thr k a b o r n,m,ρ,tk=>by simp only [Lv.app,thS,gL n m,PI]
 | .sum ps n,m,ρ,tk=>by simp only [Lv.app,thS,gL n m,PI]
 | .part o q n,m,ρ,tk=>by simp only [Lv.app,thS,gL n m,PI]
theorem cZ:∀(l m:Lv) (tk:Tk),thBad (l.app m) tk=(thBad l tk||thBad m tk)
 | .nil,_,_=>by simp [Lv.app,thBad]
 | .thr k a b o r n,m,tk=>by simp only [Lv.app,thBad,cZ n m,Ql]
 | .sum ps n,m,tk=>by simp only [Lv.app,thBad,cZ n m,Ql]
 | .part o q n,m,tk=>by simp only [Lv.app,thBad,cZ n m,Ql]
theorem ct:∀(l m:Lv),thAll (l.app m)=thAll l+thAll m
 | .nil,_=>by simp [Lv.app,thAll]
 | .thr k a b o r n,m=>by simp only [Lv.app,thAll,ct n m];omega
 | .sum ps n,m=>by simp only [Lv.app,thAll,ct n m];omega
 | .part o q n,m=>by simp only [Lv.app,thAll,ct n m];omega
theorem cA:∀(l m:Lv),ax (l.app m)=max (ax l) (ax m)
 | .nil,_=>by simp [Lv.app,ax]
 | .thr k a b o r n,m=>by simp only [Lv.app,ax,cA n m];omega
 | .sum ps n,m=>by simp only [Lv.app,ax,cA n m];omega
 | .part o q n,m=>by simp only [Lv.app,ax,cA n m];omega
theorem my {own G:List Nat}{f g:Rh->Tk->List Tx}(h:own.Perm G)(J:∀ρ tk,(f ρ tk).Perm (g ρ tk))(ρ:Rh)(tk:Tk):aU own f ρ tk=aU G g ρ tk:=by
 unfold aU;have e:(f ρ tk).isEmpty=(g ρ tk).isEmpty:=by
  rw [PM,R3,R3];exact⟨λe=>by have :=J ρ tk;rw [e]at this;exact this.symm.eq_nil,λe=>by have :=J ρ tk;rw [e]at this;exact this.eq_nil⟩
 rw [e,h.length_eq];split
 ·rfl
 ·show wrap _ (bO _)=wrap _ (bO _)
  congr 1
  refine pk λs=>?_
  simp only [Pw,db];constructor
  ·rintro⟨π,H,rfl⟩
   exact⟨π,H.trans h,by rw [lK (J _ _)]⟩
  ·rintro⟨π,H,rfl⟩
   exact⟨π,H.trans h.symm,by rw [lK (J _ _)]⟩
def LS (u:U):Rh->Tk->Tx:=aU (td u).1 (thS (td u).2)
def dD (u:U):Tk->Bool:=gg (td u).1.length (td u).2.isNil (thBad (td u).2)
def cQ (u:U):Nat:=(td u).1.length+thAll (td u).2
def bn (u:U):Nat:=max (td u).1.length (ax (td u).2)
def JA:U->Bool
 | .snd .. =>true | .rcv .. =>true | .tau .. =>true | .mat .. =>true | .rep .. =>true | .sum .. =>true | _=>false
theorem zz:∀(u:U),∀t∈(ak u).2,JA t=true:=by
 intro u
 induction u with
 | nil=>intro t h;simp [ak]at h
 | snd a b p G=>intro t h;simp [ak]at h;subst h;rfl
 | rcv a b p G=>intro t h;simp [ak]at h;subst h;rfl
 | tau p G=>intro t h;simp [ak]at h;subst h;rfl
 | sum p q G H=>
  intro t h;simp only [ak]at h;split at h
  ·exact H t h
  ·split at h
   ·exact G t h
   ·simp at h;subst h;rfl
 | par p q G H=>intro t h;simp only [ak,OS]at h;exact h.elim (G t) (H t)
 | res x p G=>exact G
 | mat a b p G=>
  intro t h;simp only [ak]at h;split at h
  ·exact G t h
  ·split at h
   ·simp at h
   ·simp at h;subst h;rfl
 | rep p G=>
  intro t h;simp only [ak]at h;split at h
  ·simp at h
  ·simp at h;subst h;rfl
def thU:U->Rh->Tk->Tx
 | .snd a b p,ρ,tk=>kText .s (ρ a) (ρ b) (LS p ρ tk)
 | .rcv a x p,ρ,tk=>kText .r (ρ a) (iV tk) (LS p (aI ρ x (iV tk)) (cz tk (iV tk)))
 | .tau p,ρ,tk=>kText .t 0 0 (LS p ρ tk)
 | .mat a b p,ρ,tk=>kText .m (ρ a) (ρ b) (LS p ρ tk)
 | .rep p,ρ,tk=>kText .p 0 0 (LS p ρ tk)
 | .sum p q,ρ,tk=>joinS 43 (a6 ((aw p++aw q).map λu=>LS u ρ tk))
 | _,_,_=>[]
theorem Hs:∀(l:List U) (ρ:Rh) (tk:Tk),thS (tp l) ρ tk=l.map λu=>LS u ρ tk
 | [],_,_=>rfl
 | u::l,ρ,tk=>by rw [tp,thS,Hs l];rfl
theorem HQ:∀(l:List U),(∀t∈l,JA t=true)->∀(ρ:Rh) (tk:Tk),thS (tl l) ρ tk=l.map λu=>thU u ρ tk
 | [],_,_,_=>rfl
 | u::l,h,ρ,tk=>by
  have G:=HQ l (λt H=>h t (OZ _ H)) ρ tk;have hu:=h u (Py ..);cases u<;>first | (cases hu;done) | (simp only [tl,thS,G,Pk,Hs];rfl)
theorem yc {u:U}(h:Uq u)(ρ:Rh)(tk:Tk):LS u ρ tk=aU (ak u).1 (λρ tk=>(ak u).2.map λt=>thU t ρ tk) ρ tk:=by
 obtain⟨G,h2,_⟩:=gu u h;refine my h2 (λρ tk=>?_) ρ tk;rw [G,HQ _ (zz u)]
def nm (c:UInt8):Bool:=(97<=c&&c<=122)||(65<=c&&c<=90)||128<=c
def endI (l:Tx):Nat->Int->Int
 | 0,_=> -1
 | n+1,i=>
  if(l.length:Int)<=i then -1 else
  if bt l i.toNat=48 then i+1 else
  if bt l i.toNat=42 then endI l n (i+1)else
  if bt l i.toNat=126 then(if i+1< l.length/\bt l (i+1).toNat=46 then endI l n (i+2)else -1)else
  if bt l i.toNat=35 then(if i+2< l.length/\nm (bt l (i+1).toNat)=true/\bt l (i+2).toNat=46 then endI l n (i+3)else -1)else
  if bt l i.toNat=91 then(if i+4< l.length/\nm (bt l (i+1).toNat)=true/\bt l (i+2).toNat=61/\nm (bt l (i+3).toNat)=true/\bt l (i+4).toNat=93 then endI l n (i+5)else -1)else
  if bt l i.toNat=40 then
   (if endI l n (i+1)< 0\/(l.length:Int)<=endI l n (i+1)\/(bt l (endI l n (i+1)).toNat≠43/\bt l (endI l n (i+1)).toNat≠38)then -1 else
    if 0<=endI l n (endI l n (i+1)+1)/\endI l n (endI l n (i+1)+1)< l.length/\bt l (endI l n (endI l n (i+1)+1)).toNat=41 then endI l n (endI l n (i+1)+1)+1 else -1)else
  if nm (bt l i.toNat)=true then(if i+3< l.length/\(bt l (i+1).toNat=33\/bt l (i+1).toNat=63)/\nm (bt l (i+2).toNat)=true/\bt l (i+3).toNat=46 then endI l n (i+4)else -1)else -1
theorem DK (l:Tx):∀n i,0<=i->endI l n i= -1\/i< endI l n i/\endI l n i<=l.length:=by
 intro n;induction n with
 | zero=>intro i _;exact .inl rfl
 | succ n G=>
  intro i hi;have H:=G (i+1) (by omega);have h2:=G (i+2) (by omega);have J:=G (i+3) (by omega);have h4:=G (i+4) (by omega);have h5:=G (i+5) (by omega);have V:=G (endI l n (i+1)+1);unfold endI
  repeat' split
  all_goals omega
def lt (c:UInt8):Bool:=97<=c&&c<=122
abbrev P:=T UInt8
def T.wf:P->Bool
 | .nil=>true | .snd a b p=>nm a&&nm b&&p.wf | .rcv a b p=>nm a&&nm b&&p.wf | .tau p=>p.wf | .sum p q=>p.wf&&q.wf
 | .par p q=>p.wf&&q.wf | .res x p=>nm x&&p.wf | .mat a b p=>nm a&&nm b&&p.wf | .rep p=>p.wf
def T.kind:P->UInt8
 | .nil=>48 | .snd .. =>33 | .rcv .. =>63 | .tau _=>126 | .sum .. =>43 | .par .. =>38 | .res .. =>35 | .mat .. =>61 | .rep _=>42
def T.parts:P->List P
 | .nil=>[] | .snd _ _ p=>[p] | .rcv _ _ p=>[p] | .tau p=>[p] | .sum p q=>[p,q] | .par p q=>[p,q] | .res _ p=>[p] | .mat _ _ p=>[p] | .rep p=>[p]
theorem GJ (t:P):0< t.text.length:=by cases t<;>simp [T.text]
theorem bE:∀t:P,t.size<=t.text.length
 | .nil=>by simp [T.size,T.text]
 | .snd a b p=>by have :=bE p;simp only [T.size,T.text,OF];omega
 | .rcv a b p=>by have :=bE p;simp only [T.size,T.text,OF];omega
 | .tau p=>by have :=bE p;simp only [T.size,T.text,OF];omega
 | .res a p=>by have :=bE p;simp only [T.size,T.text,OF];omega
 | .mat a b p=>by have :=bE p;simp only [T.size,T.text,OF];omega
 | .rep p=>by have :=bE p;simp only [T.size,T.text,OF];omega
 | .sum p q=>by have :=bE p;have :=bE q;simp only [T.size,T.text,OF,OM,OX];omega
 | .par p q=>by have :=bE p;have :=bE q;simp only [T.size,T.text,OF,OM,OX];omega
theorem drop_cons {l:Tx}{i:Nat}{c:UInt8}{r:Tx}(h:l.drop i=c::r):i< l.length/\bt l i=c/\l.drop (i+1)=r:=by
 have hi:i< l.length:=by
  rcases Qn i l.length with h' | h'
  ·exact h'
  ·rw [Qs h']at h;cases h
 have e:=PK hi;rw [h]at e;simp only [PC]at e;refine⟨hi,?_,e.2.symm⟩;rw [e.1];simp [bt,hi]
theorem bJ {l:Tx}{i:Nat}(h:i< l.length):l.drop i=bt l i::l.drop (i+1):=by
 rw [PK h];simp [bt,h]
theorem tZ {c:UInt8}(h:nm c=true):c≠48/\c≠42/\c≠126/\c≠35/\c≠91/\c≠40:=by
 refine⟨?_,?_,?_,?_,?_,?_⟩<;>rintro rfl<;>revert h<;>decide
theorem wU {l:Tx}:∀(t:P) (n i:Nat) (r:Tx),t.wf=true->t.size<=n->l.drop i=t.text++r->endI l n i=((i+t.text.length:Nat):Int):=by
 intro t
 induction t with
 | nil=>
  intro n i r hw G h;obtain⟨n,rfl⟩:∃m,n=m+1:=⟨n - 1,by simp only [T.size]at G;omega⟩
  obtain⟨h1,h2,_⟩:=drop_cons h;unfold endI;rw [O1 (by omega),OU,Pj h2];simp [T.text]
 | rep p J=>
  intro n i r hw G h;simp only [T.size]at G;obtain⟨n,rfl⟩:∃m,n=m+1:=⟨n - 1,by omega⟩
  obtain⟨h1,h2,H⟩:=drop_cons h;unfold endI;rw [O1 (by omega),OU,O1 (by rw [h2];decide),Pj h2];have :=J n (i+1) r hw (by omega) H;rw [Int.natCast_add]at this;simp only [Int.natCast_one]at this;rw [this];simp only [T.text,OF];omega
 | tau p J=>
  intro n i r hw G h;simp only [T.size]at G;obtain⟨n,rfl⟩:∃m,n=m+1:=⟨n - 1,by omega⟩
  obtain⟨h1,h2,H⟩:=drop_cons h;obtain⟨k1,Z,V⟩:=drop_cons H;have e1:((i:Int)+1).toNat=i+1:=by omega
  have :=J n (i+2) r hw (by omega) V;have e2:(i:Int)+2=((i+2:Nat):Int):=by omega
  unfold endI;rw [O1 (by omega),OU,e1,e2,h2,Z,this];rw [O1 (by decide),O1 (by decide),Pj rfl,Pj ⟨by omega,rfl⟩];simp only [T.text,OF];omega
 | res x p J=>
  intro n i r hw G h;simp only [T.size]at G;simp only [T.wf,OJ]at hw;obtain⟨n,rfl⟩:∃m,n=m+1:=⟨n - 1,by omega⟩
  obtain⟨h1,h2,H⟩:=drop_cons h;obtain⟨k1,Z,V⟩:=drop_cons H;obtain⟨m1,m2,m3⟩:=drop_cons V;have e1:((i:Int)+1).toNat=i+1:=by omega
  have W:((i:Int)+2).toNat=i+1+1:=by omega
  have :=J n (i+3) r hw.2 (by omega) m3;have e2:(i:Int)+3=((i+3:Nat):Int):=by omega
  unfold endI;rw [O1 (by omega),OU,e1,W,e2,h2,Z,m2,this];rw [O1 (by decide),O1 (by decide),O1 (by decide),Pj rfl,Pj ⟨by omega,hw.1,rfl⟩];simp only [T.text,OF];omega
 | mat a b p J=>
  intro n i r hw G h;simp only [T.size]at G;simp only [T.wf,OJ]at hw;obtain⟨n,rfl⟩:∃m,n=m+1:=⟨n - 1,by omega⟩
  obtain⟨h1,h2,H⟩:=drop_cons h;obtain⟨k1,Z,V⟩:=drop_cons H;obtain⟨m1,m2,m3⟩:=drop_cons V;obtain⟨o1,o2,o3⟩:=drop_cons m3;obtain⟨q1,q2,q3⟩:=drop_cons o3;have e1:((i:Int)+1).toNat=i+1:=by omega
  have W:((i:Int)+2).toNat=i+1+1:=by omega
  have e3:((i:Int)+3).toNat=i+1+1+1:=by omega
  have e4:((i:Int)+4).toNat=i+1+1+1+1:=by omega
  have :=J n (i+5) r hw.2 (by omega) q3;have e2:(i:Int)+5=((i+5:Nat):Int):=by omega
  unfold endI;rw [O1 (by omega),OU,e1,W,e2,e3,e4,h2,Z,m2,o2,q2,this];rw [O1 (by decide),O1 (by decide),O1 (by decide),O1 (by decide),Pj rfl,Pj ⟨by omega,hw.1.1,rfl,hw.1.2,rfl⟩];simp only [T.text,OF];omega
 | snd a b p J=>
  intro n i r hw G h;simp only [T.size]at G;simp only [T.wf,OJ]at hw;obtain⟨n,rfl⟩:∃m,n=m+1:=⟨n - 1,by omega⟩
  obtain⟨h1,h2,H⟩:=drop_cons h;obtain⟨k1,Z,V⟩:=drop_cons H;obtain⟨m1,m2,m3⟩:=drop_cons V;obtain⟨o1,o2,o3⟩:=drop_cons m3;have e1:((i:Int)+1).toNat=i+1:=by omega
  have W:((i:Int)+2).toNat=i+1+1:=by omega
  have e3:((i:Int)+3).toNat=i+1+1+1:=by omega
  have :=J n (i+4) r hw.2 (by omega) o3;have e2:(i:Int)+4=((i+4:Nat):Int):=by omega
  obtain⟨n1,n2,n3,n4,n5,n6⟩:=tZ hw.1.1;unfold endI;rw [O1 (by omega),OU,e1,W,e2,e3,h2,Z,m2,o2,this];rw [O1 n1,O1 n2,O1 n3,O1 n4,O1 n5,O1 n6,Pj hw.1.1,Pj ⟨by omega,.inl rfl,hw.1.2,rfl⟩];simp only [T.text,OF];omega
 | rcv a b p J=>
  intro n i r hw G h;simp only [T.size]at G;simp only [T.wf,OJ]at hw;obtain⟨n,rfl⟩:∃m,n=m+1:=⟨n - 1,by omega⟩
  obtain⟨h1,h2,H⟩:=drop_cons h;obtain⟨k1,Z,V⟩:=drop_cons H;obtain⟨m1,m2,m3⟩:=drop_cons V;obtain⟨o1,o2,o3⟩:=drop_cons m3;have e1:((i:Int)+1).toNat=i+1:=by omega
  have W:((i:Int)+2).toNat=i+1+1:=by omega
  have e3:((i:Int)+3).toNat=i+1+1+1:=by omega
  have :=J n (i+4) r hw.2 (by omega) o3;have e2:(i:Int)+4=((i+4:Nat):Int):=by omega
  obtain⟨n1,n2,n3,n4,n5,n6⟩:=tZ hw.1.1;unfold endI;rw [O1 (by omega),OU,e1,W,e2,e3,h2,Z,m2,o2,this];rw [O1 n1,O1 n2,O1 n3,O1 n4,O1 n5,O1 n6,Pj hw.1.1,Pj ⟨by omega,.inr rfl,hw.1.2,rfl⟩];simp only [T.text,OF];omega
 | sum p q J α=>
  intro n i r hw G h;simp only [T.size]at G;simp only [T.wf,OJ]at hw;obtain⟨n,rfl⟩:∃m,n=m+1:=⟨n - 1,by omega⟩
  have h:l.drop i=40::(p.text++43::(q.text++41::r)):=by rw [h];simp [T.text]
  obtain⟨h1,h2,H⟩:=drop_cons h;have e:=J n (i+1) _ hw.1 (by omega) H;have h4:l.drop (i+1+p.text.length)=43::(q.text++41::r):=by
   rw [<-RT,H,RU]
  obtain⟨k1,Z,V⟩:=drop_cons h4;have e':=α n (i+1+p.text.length+1) _ hw.2 (by omega) V;have h5:l.drop (i+1+p.text.length+1+q.text.length)=41::r:=by
   rw [<-RT,V,RU]
  obtain⟨m1,m2,m3⟩:=drop_cons h5;have c1:(i:Int)+1=((i+1:Nat):Int):=by omega
  have c2:((i+1+p.text.length:Nat):Int)+1=((i+1+p.text.length+1:Nat):Int):=by omega
  unfold endI;rw [O1 (by omega)];simp only [OU,h2,c1,e,c2,e',Z,m2];rw [O1 (by decide),O1 (by decide),O1 (by decide),O1 (by decide),O1 (by decide),Pj trivial,O1,Pj ⟨by omega,by omega,trivial⟩]
  ·simp only [T.text,OF,OM,OX];omega
  ·rintro(hh | hh | hh)
   ·omega
   ·omega
   ·exact hh.1 rfl
 | par p q J α=>
  intro n i r hw G h;simp only [T.size]at G;simp only [T.wf,OJ]at hw;obtain⟨n,rfl⟩:∃m,n=m+1:=⟨n - 1,by omega⟩
  have h:l.drop i=40::(p.text++38::(q.text++41::r)):=by rw [h];simp [T.text]
  obtain⟨h1,h2,H⟩:=drop_cons h;have e:=J n (i+1) _ hw.1 (by omega) H;have h4:l.drop (i+1+p.text.length)=38::(q.text++41::r):=by
   rw [<-RT,H,RU]
  obtain⟨k1,Z,V⟩:=drop_cons h4;have e':=α n (i+1+p.text.length+1) _ hw.2 (by omega) V;have h5:l.drop (i+1+p.text.length+1+q.text.length)=41::r:=by
   rw [<-RT,V,RU]
  obtain⟨m1,m2,m3⟩:=drop_cons h5;have c1:(i:Int)+1=((i+1:Nat):Int):=by omega
  have c2:((i+1+p.text.length:Nat):Int)+1=((i+1+p.text.length+1:Nat):Int):=by omega
  unfold endI;rw [O1 (by omega)];simp only [OU,h2,c1,e,c2,e',Z,m2];rw [O1 (by decide),O1 (by decide),O1 (by decide),O1 (by decide),O1 (by decide),Pj trivial,O1,Pj ⟨by omega,by omega,trivial⟩]
  ·simp only [T.text,OF,OM,OX];omega
  ·rintro(hh | hh | hh)
   ·omega
   ·omega
   ·exact hh.2 rfl
theorem CG {l:Tx}:∀(n i:Nat),0<=endI l n i->∃t:P,t.wf=true/\l.drop i=t.text++l.drop (endI l n i).toNat:=by
 intro n
 induction n with
 | zero=>intro i h;simp [endI]at h
 | succ n V=>
  intro i h;have κ:∀i:Nat,0<=endI l n i->∃t:P,t.wf=true/\l.drop i=t.text++l.drop (endI l n i).toNat:=V;have c1:(i:Int)+1=((i+1:Nat):Int):=by omega
  have c2:(i:Int)+2=((i+2:Nat):Int):=by omega
  have c3:(i:Int)+3=((i+3:Nat):Int):=by omega
  have c4:(i:Int)+4=((i+4:Nat):Int):=by omega
  have c5:(i:Int)+5=((i+5:Nat):Int):=by omega
  unfold endI at h|-;simp only [c1,c2,c3,c4,c5,OU]at h|-;split at h
  ·omega
  rename_i hi;have hl:i< l.length:=by omega
  rw [O1 hi];rw [bJ hl];split at h
  ·rename_i hc;rw [Pj hc];exact⟨.nil,rfl,by rw [hc];rfl⟩
  rename_i α;rw [O1 α];split at h
  ·rename_i hc;obtain⟨t,hw,H⟩:=V _ h;rw [Pj hc];exact⟨.rep t,hw,by rw [hc,H];rfl⟩
  rename_i β;rw [O1 β];split at h
  ·rename_i hc;rw [Pj hc];split at h
   ·rename_i G;obtain⟨t,hw,H⟩:=V _ h;rw [Pj G];have J:i+1< l.length:=by omega
    exact⟨.tau t,hw,by rw [hc,bJ J,G.2,H];rfl⟩
   ·omega
  rename_i γ;rw [O1 γ];split at h
  ·rename_i hc;rw [Pj hc];split at h
   ·rename_i G;obtain⟨t,hw,H⟩:=V _ h;rw [Pj G];have J:i+1< l.length:=by omega
    have h2:i+1+1< l.length:=by omega
    exact⟨.res (bt l (i+1)) t,by simp [T.wf,hw,G.2.1],by rw [hc,bJ J,bJ h2,G.2.2,H];rfl⟩
   ·omega
  rename_i δ;rw [O1 δ];split at h
  ·rename_i hc;rw [Pj hc];split at h
   ·rename_i G;obtain⟨t,hw,H⟩:=V _ h;rw [Pj G];have J:i+1< l.length:=by omega
    have h2:i+1+1< l.length:=by omega
    have Z:i+1+1+1< l.length:=by omega
    have h4:i+1+1+1+1< l.length:=by omega
    exact⟨.mat (bt l (i+1)) (bt l (i+3)) t,by simp [T.wf,hw,G.2.1,G.2.2.2.1],by
     rw [hc,bJ J,bJ h2,bJ Z,bJ h4,G.2.2.1,G.2.2.2.2,H];rfl⟩
   ·omega
  rename_i ε;rw [O1 ε];split at h
  ·rename_i hc;rw [Pj hc];split at h
   ·omega
   ·rename_i hm;rw [O1 hm];have ζ:0<=endI l n ((i+1:Nat):Int):=by omega
    obtain⟨t,hw,H⟩:=V _ ζ;generalize hM:(endI l n ((i+1:Nat):Int)).toNat=m at*;have η:endI l n ((i+1:Nat):Int)=(m:Int):=by omega
    simp only [η]at h hm|-;have cm:(m:Int)+1=((m+1:Nat):Int):=by omega
    simp only [cm]at h|-;split at h
    ·rename_i he;rw [Pj he];obtain⟨u,W,hu⟩:=V _ he.1;have J:m< l.length:=by omega
     generalize hE:(endI l n ((m+1:Nat):Int)).toNat=e at*;have θ:endI l n ((m+1:Nat):Int)=(e:Int):=by omega
     simp only [θ]at he|-;have h2:e< l.length:=by omega
     have ce:(((e:Int)+1).toNat)=e+1:=by omega
     rw [ce];have hb:bt l m=43\/bt l m=38:=by
      by_cases hx:bt l m=43
      ·exact .inl hx
      ·by_cases hy:bt l m=38
       ·exact .inr hy
       ·exact absurd (.inr (.inr ⟨hx,hy⟩)) hm
     rcases hb with hb | hb
     ·exact⟨.sum t u,by simp [T.wf,hw,W],by rw [hc,H,bJ J,hb,hu,bJ h2,he.2.2];simp [T.text]⟩
     ·exact⟨.par t u,by simp [T.wf,hw,W],by rw [hc,H,bJ J,hb,hu,bJ h2,he.2.2];simp [T.text]⟩
    ·omega
  rename_i ι;rw [O1 ι];split at h
  ·rename_i hc;rw [Pj hc];split at h
   ·rename_i G;obtain⟨t,hw,H⟩:=V _ h;rw [Pj G];have J:i+1< l.length:=by omega
    have h2:i+1+1< l.length:=by omega
    have Z:i+1+1+1< l.length:=by omega
    rcases G.2.1 with hb | hb
    ·exact⟨.snd (bt l i) (bt l (i+2)) t,by simp [T.wf,hw,G.2.2.1,hc],by rw [bJ J,bJ h2,bJ Z,hb,G.2.2.2,H];rfl⟩
    ·exact⟨.rcv (bt l i) (bt l (i+2)) t,by simp [T.wf,hw,G.2.2.1,hc],by rw [bJ J,bJ h2,bJ Z,hb,G.2.2.2,H];rfl⟩
   ·omega
  ·omega
theorem mj:∀{t u:P} {r r':Tx},t.wf=true->u.wf=true->t.text++r=u.text++r'->t=u/\r=r':=by
 intro t
 induction t<;>intro u r r' H hu h<;>cases u<;>
  simp only [T.text,T.wf,PI,Pv,PG,PC,OJ]at h H hu
 case nil.nil=>exact⟨rfl,h.2⟩
 case snd.snd G _ _ _=>
  obtain⟨rfl,_,rfl,_,h⟩:=h;obtain⟨rfl,k⟩:=G H.2 hu.2 h;exact⟨rfl,k⟩
 case rcv.rcv G _ _ _=>
  obtain⟨rfl,_,rfl,_,h⟩:=h;obtain⟨rfl,k⟩:=G H.2 hu.2 h;exact⟨rfl,k⟩
 case mat.mat G _ _ _=>
  obtain⟨_,rfl,_,rfl,_,h⟩:=h;obtain⟨rfl,k⟩:=G H.2 hu.2 h;exact⟨rfl,k⟩
 case res.res G _ _=>
  obtain⟨_,rfl,_,h⟩:=h;obtain⟨rfl,k⟩:=G H.2 hu.2 h;exact⟨rfl,k⟩
 case tau.tau G _=>
  obtain⟨rfl,k⟩:=G H hu h.2.2;exact⟨rfl,k⟩
 case rep.rep G _=>
  obtain⟨rfl,k⟩:=G H hu h.2;exact⟨rfl,k⟩
 case sum.sum G J _ _=>
  obtain⟨rfl,k⟩:=G H.1 hu.1 h.2;obtain⟨rfl,m⟩:=J H.2 hu.2 (PQ k).2;exact⟨rfl,(PQ m).2⟩
 case par.par G J _ _=>
  obtain⟨rfl,k⟩:=G H.1 hu.1 h.2;obtain⟨rfl,m⟩:=J H.2 hu.2 (PQ k).2;exact⟨rfl,(PQ m).2⟩
 case sum.par G J _ _=>
  obtain⟨rfl,k⟩:=G H.1 hu.1 h.2;exact absurd (PQ k).1 (by decide)
 case par.sum G J _ _=>
  obtain⟨rfl,k⟩:=G H.1 hu.1 h.2;exact absurd (PQ k).1 (by decide)
 all_goals
  exfalso
  first
   | exact absurd h.1 (by decide)
   | exact absurd h.2.1 (by decide)
   | (have V:=tZ hu.1.1;rw [<-h.1]at V;simp at V;done)
   | (have V:=tZ H.1.1;rw [h.1]at V;simp at V;done)
theorem fT {t u:P}(G:t.wf=true)(hu:u.wf=true)(h:t.text=u.text):t=u:=
 (mj G hu (r:=[]) (r':=[]) (by rw [h])).1
end Go.Proofs.YtdecokaadekjnaaGreat
namespace Go.Proofs.YtdecokaadekjnaaGreat
open Go Go.RowKit
def Ex (w w':World):Prop:=Below w.heap.size w w'
theorem Ex.refl (w:World):Ex w w:=Sj _ _
theorem Ex.trans {a b c:World}(h:Ex a b)(k:Ex b c):Ex a c:=Qr h (RC k h.size)
theorem Ex.drew (w:World):Ex w w.drew:=Below.drew (Sj _ _)
theorem Ex.alloc (w:World)(o:Obj):Ex w (w.alloc o):=Below.alloc (Sj _ _) (OQ _) o
theorem Ex.cell {w w':World}(h:Ex w w'){a:Addr}(ha:a.block< w.heap.size):w'.cell? a=w.cell? a:=Below.cell h ha
theorem H6 {c:UInt8}{w:World}{R:Bool->Sl}(h:R (nm c) w):Sm 161 #[.int .u8 c.toNat] w (an [.b] R):=by
 refine tc c w R ?_;dsimp only [go_sem];dsimp only [go_sem,UInt8.reduceOfNat,UInt32.reduceOfNat,Nat.reduceAdd];have e:nm c=true\/nm c=false:=by cases nm c<;>simp
 unfold nm at*
 grind
theorem oX (p:Tx)(hp:p.length<=4611686018427387904):∀(n:Nat) (i:Int),0<=i->(p.length:Int) - i< n->i<=p.length+1->∀{w:World} {R:Int->Sl},R (endI p n i) w->
  Sm 110 #[.string (ai p),.int .i64 i] w (an [.i] R):=by
 intro n
 induction n with
 | zero=>
  intro i H J h2 w R h;refine nK p i w R ?_;dsimp only [go_sem];dsimp only [go_sem,UInt8.reduceOfNat,UInt32.reduceOfNat,Nat.reduceAdd];exact⟨λ _=>h,λV=>by simp at V;omega⟩
 | succ n W=>
  intro i H J h2 w R h;refine nK p i w R ?_;dsimp only [go_sem];dsimp only [go_sem,UInt8.reduceOfNat,UInt32.reduceOfNat,Nat.reduceAdd];have Z:=DK p n (i+1) (by omega);have G:=DK p n (endI p n (i+1)+1);unfold endI at h;unfold a7
  repeat' first
   | refine H6 ?_
   | refine W _ ?_ ?_ ?_ ?_
   | refine And.intro ?_ ?_
   | intro _
  all_goals grind
structure Ok (t:P):Prop where
 wf:t.wf=true
 len:t.text.length<=1099511627776
def Strs (w:World)(v:Value)(l:List Tx):Prop:=
 (v= .slice none 0 0/\l=[])\/∃b off cap,v= .slice (some ⟨b,off,none⟩) l.length cap/\b< w.heap.size/\∀i x,l[i]?=some x->w.cell? ⟨b,off+i,none⟩=some (.string (ai x))
theorem Strs.ex {w w':World}{v:Value}{l:List Tx}(h:Strs w v l)(k:Ex w w'):Strs w' v l:=by
 rcases h with h | ⟨b,off,cap,G,h2,H⟩
 ·exact .inl h
 ·exact .inr ⟨b,off,cap,G,O' h2 k.size,λi x J=>by rw [k.cell h2];exact H i x J⟩
theorem Strs.slice {w:World}{v:Value}{l:List Tx}(h:Strs w v l):∃a cap,v= .slice a l.length cap:=by
 rcases h with⟨h,rfl⟩ | ⟨b,off,cap,G,_⟩
 ·exact⟨_,_,h⟩
 ·exact⟨_,_,G⟩
theorem Strs.at {w:World}{v:Value}{l:List Tx}(h:Strs w v l){i:Nat}(hi:i< l.length):
  ∃b off cap,v= .slice (some ⟨b,off,none⟩) l.length cap/\b< w.heap.size/\w.cell? ⟨b,off+i,none⟩=some (.string (ai l[i])):=by
 rcases h with⟨h,rfl⟩ | ⟨b,off,cap,G,h2,H⟩
 ·simp at hi
 ·exact⟨b,off,cap,G,h2,H i _ (OH hi)⟩
theorem dc {p:Prop}{_:Decidable p}{A B:Prop}(h:p)(G:A):(decide p=true->A)/\(decide p=false->B):=⟨λ _=>G,λH=>absurd h (O9 H)⟩
theorem aW {p:Prop}{_:Decidable p}{A B:Prop}(h:¬p)(hB:B):(decide p=true->A)/\(decide p=false->B):=⟨λG=>absurd (O7 G) h,λ _=>hB⟩
theorem dQ {p:Prop}{_:Decidable p}{A B:Prop}(h:p)(G:A):(decide p=false->B)/\(decide p=true->A):=⟨λH=>absurd h (O9 H),λ _=>G⟩
theorem cF {p:Prop}{_:Decidable p}{A B:Prop}(h:¬p)(hB:B):(decide p=false->B)/\(decide p=true->A):=⟨λ _=>hB,λG=>absurd (O7 G) h⟩
theorem aa {w:World}{c:Array Value}{el:Nat}{i:Nat}{v:Value}(h:c[i]?=some v):(w.alloc (.cells c el)).cell? ⟨w.heap.size,i,none⟩=some v:=by
 unfold World.cell? World.alloc;simp [h]
theorem size_alloc (w:World)(o:Obj):(w.alloc o).heap.size=w.heap.size+1:=by unfold World.alloc;simp
theorem pH (t:P)(hw:t.wf=true)(l:Tx)(i:Nat)(r:Tx)(h:l.drop i=t.text++r)(n:Nat)(G:(l.length:Int) - i< n):endI l n i=((i+t.text.length:Nat):Int):=by
 refine wU t n i r hw ?_ h;have H:=bE t;have h2:=PS List.length h;simp only [Qq,OM]at h2;omega
theorem HV (l r:Tx)(i:Nat)(c:UInt8)(h:i=l.length):bt (l++c::r) i=c:=by
 subst h;simp [bt]
theorem aO {t:P}(ok:Ok t){w:World}{R:UInt8->Sl}(h:R t.kind w):Sm 120 #[.string (ai t.text)] w (an [.c] R):=by
 refine uw _ w R ?_;dsimp only [go_sem];dsimp only [go_sem,UInt8.reduceOfNat,UInt32.reduceOfNat,Nat.reduceAdd];have hw:=ok.wf;have hl:=ok.len;cases t with
 | nil=>simpa [T.text,bt,T.kind]using h
 | rep p=>simpa [T.text,bt,T.kind]using h
 | tau p=>simp [T.text,bt];exact⟨by omega,h⟩
 | res x p=>simp [T.text,bt];exact⟨by omega,h⟩
 | mat a b p=>simp [T.text,bt];exact⟨by omega,h⟩
 | snd a b p=>
  simp only [T.wf,OJ]at hw;obtain⟨n1,G,H,J,n5,V⟩:=tZ hw.1.1;simp [T.text,bt,n1,G,H,J,n5,V];exact⟨by omega,by omega,h⟩
 | rcv a b p=>
  simp only [T.wf,OJ]at hw;obtain⟨n1,G,H,J,n5,V⟩:=tZ hw.1.1;simp [T.text,bt,n1,G,H,J,n5,V];exact⟨by omega,by omega,h⟩
 | sum p q=>
  simp only [T.wf,OJ]at hw;have e:=pH p hw.1 (T.sum p q).text 1 (43::(q.text++[41])) rfl ((T.sum p q).text.length+1) (by omega);have W:bt (T.sum p q).text (1+p.text.length)=43:=HV (40::p.text) _ _ 43 (by simp;omega);have e3:1+p.text.length< (T.sum p q).text.length:=by simp only [T.text,OF,OM];omega
  have e0:bt (T.sum p q).text 0=40:=rfl;simp only [Int.toNat_zero,e0];refine⟨by omega,?_⟩
  repeat' first | refine aW (by decide) ?_ | refine dc (by decide) ?_ | refine cF (by decide) ?_ | refine dQ (by decide) ?_
  refine oX _ (by omega) _ 1 (by omega) (by omega:((T.sum p q).text.length:Int) - 1< ((T.sum p q).text.length+1:Nat)) (by omega) ?_;have Z:endI (T.sum p q).text ((T.sum p q).text.length+1) 1=((1+p.text.length:Nat):Int):=e;rw [Z];refine⟨by omega,?_⟩;rw [OU,W];exact h
 | par p q=>
  simp only [T.wf,OJ]at hw;have e:=pH p hw.1 (T.par p q).text 1 (38::(q.text++[41])) rfl ((T.par p q).text.length+1) (by omega);have W:bt (T.par p q).text (1+p.text.length)=38:=HV (40::p.text) _ _ 38 (by simp;omega);have e3:1+p.text.length< (T.par p q).text.length:=by simp only [T.text,OF,OM];omega
  have e0:bt (T.par p q).text 0=40:=rfl;simp only [Int.toNat_zero,e0];refine⟨by omega,?_⟩
  repeat' first | refine aW (by decide) ?_ | refine dc (by decide) ?_ | refine cF (by decide) ?_ | refine dQ (by decide) ?_
  refine oX _ (by omega) _ 1 (by omega) (by omega:((T.par p q).text.length:Int) - 1< ((T.par p q).text.length+1:Nat)) (by omega) ?_;have Z:endI (T.par p q).text ((T.par p q).text.length+1) 1=((1+p.text.length:Nat):Int):=e;rw [Z];refine⟨by omega,?_⟩;rw [OU,W];exact h
def T.hd:P->Nat
 | .nil=>4 | .snd .. =>4 | .rcv .. =>4 | .tau _=>2 | .sum .. =>1 | .par .. =>1 | .res .. =>3 | .mat .. =>5 | .rep _=>1
theorem cW {t:P}(ok:Ok t){w:World}{R:Int->Sl}(h:R (t.hd:Int) w):Sm 165 #[.string (ai t.text)] w (an [.i] R):=by
 refine uv _ w R ?_;dsimp only [go_sem];dsimp only [go_sem,UInt8.reduceOfNat,UInt32.reduceOfNat,Nat.reduceAdd];refine aO ok ?_;cases t<;>simpa [T.kind,T.hd]using h
theorem Ok.parts {t:P}(ok:Ok t):∀p∈t.parts,Ok p:=by
 have hw:=ok.wf;have G:=ok.len;cases t<;>simp only [T.parts,T.wf,T.text,OJ,O4,QE,Q6,OF,OM]at hw G|-
 case nil=>intro p h;exact h.elim
 all_goals rintro _ (rfl | rfl)<;>(constructor<;>first | omega | simp_all)
theorem p9 {t:P}(ok:Ok t){w:World}{R:Value->Sl}(h:∀v w',Ex w w'->Strs w' v (t.parts.map T.text)->(∀g,v.ownBlock=some g->w.heap.size<=g)->R v w'):
  Sm 117 #[.string (ai t.text)] w (an [.v] R):=by
 refine rI _ w R ?_;dsimp only [go_sem];dsimp only [go_sem,UInt8.reduceOfNat,UInt32.reduceOfNat,Nat.reduceAdd];refine aO ok ?_;have hl:=ok.len;have hw:=ok.wf;have two:∀(w1:World) (x y:Tx) (w2:World),Ex w w1->w2=w1.alloc (.cells #[.string (ai x),.string (ai y)] 9)->Strs w2 (.slice (some ⟨w1.heap.size,0,none⟩) 2 2) [x,y]:=by
  rintro w1 x y w2 W rfl
  refine .inr ⟨_,0,2,rfl,by rw [size_alloc];omega,λi z V=>?_⟩;rw [Ph];refine aa ?_
  match i,V with
  | 0,V=>simp at V|-;exact V▸rfl
  | 1,V=>simp at V|-;exact V▸rfl
  | i+2,V=>simp at V
 have one:∀(x:Tx) (w2:World),w2=w.alloc (.cells #[.string (ai x)] 9)->Strs w2 (.slice (some ⟨w.heap.size,0,none⟩) 1 1) [x]:=by
  rintro x w2 rfl
  refine .inr ⟨_,0,1,rfl,by rw [size_alloc];omega,λi z V=>?_⟩;rw [Ph];refine aa ?_
  match i,V with
  | 0,V=>simp at V|-;exact V▸rfl
  | i+1,V=>simp at V
 cases t with
 | nil=>simpa [T.kind]using h _ _ (Ex.refl w) (.inl ⟨rfl,rfl⟩) (λg H=>by cases H)
 | sum p q=>
  simp only [T.wf,OJ]at hw;simp only [T.kind]
  repeat' first | refine aW (by decide) ?_ | refine dc (by decide) ?_ | refine cF (by decide) ?_ | refine dQ (by decide) ?_
  have e:=pH p hw.1 (T.sum p q).text 1 (43::(q.text++[41])) rfl ((T.sum p q).text.length+1) (by omega);refine oX _ (by omega) _ 1 (by omega) (by omega:((T.sum p q).text.length:Int) - 1< ((T.sum p q).text.length+1:Nat)) (by omega) ?_;have e':endI (T.sum p q).text ((T.sum p q).text.length+1) 1=((1+p.text.length:Nat):Int):=e;have e3:(T.sum p q).text.length=p.text.length+q.text.length+3:=by simp only [T.text,OF,OM,OX];omega
  rw [e'];refine⟨λ _=>True,λw1 Z=>⟨trivial,by omega,by omega,by omega,by omega,λb w2 hb G=>⟨trivial,?_⟩⟩⟩;subst hb;have x1:List.drop 1 (List.take (1+p.text.length) (T.sum p q).text)=p.text:=by
   show List.drop 1 (List.take (1+p.text.length) (40::(p.text++(43::(q.text++[41])))))=_;rw [R4,List.take_succ_cons,List.drop_one,List.tail_cons,List.take_left]
  have x2:List.drop (((1+p.text.length:Nat):Int)+1).toNat (List.take (((T.sum p q).text.length:Int) - 1).toNat (T.sum p q).text)=q.text:=by
   have a1:(((1+p.text.length:Nat):Int)+1).toNat=(40::(p.text++[43])).length:=by simp;omega
   have a2:(((T.sum p q).text.length:Int) - 1).toNat=((40::(p.text++[43]))++q.text).length:=by simp;omega
   have a3:(T.sum p q).text=((40::(p.text++[43]))++q.text)++[41]:=by simp [T.text]
   rw [a1,a2,a3,List.take_left,RU]
  rw [OU]at G;have J:w2=w1.alloc (.cells #[.string (ai p.text),.string (ai q.text)] 9):=by
   rw [G];congr 4
   ·exact PS (λz=>Value.string (ai z)) x1
   ·exact PS (λz=>[Value.string (ai z)]) x2
  have W:Ex w w1:=Z▸Ex.drew w;exact h _ _ (W.trans (J▸Ex.alloc w1 _)) (two w1 _ _ w2 W J) (λg H=>by cases H;exact W.size)
 | par p q=>
  simp only [T.wf,OJ]at hw;simp only [T.kind]
  repeat' first | refine aW (by decide) ?_ | refine dc (by decide) ?_ | refine cF (by decide) ?_ | refine dQ (by decide) ?_
  have e:=pH p hw.1 (T.par p q).text 1 (38::(q.text++[41])) rfl ((T.par p q).text.length+1) (by omega);refine oX _ (by omega) _ 1 (by omega) (by omega:((T.par p q).text.length:Int) - 1< ((T.par p q).text.length+1:Nat)) (by omega) ?_;have e':endI (T.par p q).text ((T.par p q).text.length+1) 1=((1+p.text.length:Nat):Int):=e;have e3:(T.par p q).text.length=p.text.length+q.text.length+3:=by simp only [T.text,OF,OM,OX];omega
  rw [e'];refine⟨λ _=>True,λw1 Z=>⟨trivial,by omega,by omega,by omega,by omega,λb w2 hb G=>⟨trivial,?_⟩⟩⟩;subst hb;have x1:List.drop 1 (List.take (1+p.text.length) (T.par p q).text)=p.text:=by
   show List.drop 1 (List.take (1+p.text.length) (40::(p.text++(38::(q.text++[41])))))=_;rw [R4,List.take_succ_cons,List.drop_one,List.tail_cons,List.take_left]
  have x2:List.drop (((1+p.text.length:Nat):Int)+1).toNat (List.take (((T.par p q).text.length:Int) - 1).toNat (T.par p q).text)=q.text:=by
   have a1:(((1+p.text.length:Nat):Int)+1).toNat=(40::(p.text++[38])).length:=by simp;omega
   have a2:(((T.par p q).text.length:Int) - 1).toNat=((40::(p.text++[38]))++q.text).length:=by simp;omega
   have a3:(T.par p q).text=((40::(p.text++[38]))++q.text)++[41]:=by simp [T.text]
   rw [a1,a2,a3,List.take_left,RU]
  rw [OU]at G;have J:w2=w1.alloc (.cells #[.string (ai p.text),.string (ai q.text)] 9):=by
   rw [G];congr 4
   ·exact PS (λz=>Value.string (ai z)) x1
   ·exact PS (λz=>[Value.string (ai z)]) x2
  have W:Ex w w1:=Z▸Ex.drew w;exact h _ _ (W.trans (J▸Ex.alloc w1 _)) (two w1 _ _ w2 W J) (λg H=>by cases H;exact W.size)
 | snd a b p=>
  simp only [T.kind]
  repeat' first | refine aW (by decide) ?_ | refine dc (by decide) ?_ | refine cF (by decide) ?_ | refine dQ (by decide) ?_
  refine cW ok ?_;refine⟨by simp only [T.hd,T.text,OF];omega,λb1 w2 hb G=>?_⟩;subst hb;exact h _ _ (G▸Ex.alloc w _) (one p.text w2 G) (λg H=>by cases H;exact OQ _)
 | rcv a b p=>
  simp only [T.kind]
  repeat' first | refine aW (by decide) ?_ | refine dc (by decide) ?_ | refine cF (by decide) ?_ | refine dQ (by decide) ?_
  refine cW ok ?_;refine⟨by simp only [T.hd,T.text,OF];omega,λb1 w2 hb G=>?_⟩;subst hb;exact h _ _ (G▸Ex.alloc w _) (one p.text w2 G) (λg H=>by cases H;exact OQ _)
 | tau p=>
  simp only [T.kind]
  repeat' first | refine aW (by decide) ?_ | refine dc (by decide) ?_ | refine cF (by decide) ?_ | refine dQ (by decide) ?_
  refine cW ok ?_;refine⟨by simp only [T.hd,T.text,OF];omega,λb1 w2 hb G=>?_⟩;subst hb;exact h _ _ (G▸Ex.alloc w _) (one p.text w2 G) (λg H=>by cases H;exact OQ _)
 | rep p=>
  simp only [T.kind]
  repeat' first | refine aW (by decide) ?_ | refine dc (by decide) ?_ | refine cF (by decide) ?_ | refine dQ (by decide) ?_
  refine cW ok ?_;refine⟨by simp only [T.hd,T.text,OF];omega,λb1 w2 hb G=>?_⟩;subst hb;exact h _ _ (G▸Ex.alloc w _) (one p.text w2 G) (λg H=>by cases H;exact OQ _)
 | res x p=>
  simp only [T.kind]
  repeat' first | refine aW (by decide) ?_ | refine dc (by decide) ?_ | refine cF (by decide) ?_ | refine dQ (by decide) ?_
  refine cW ok ?_;refine⟨by simp only [T.hd,T.text,OF];omega,λb1 w2 hb G=>?_⟩;subst hb;exact h _ _ (G▸Ex.alloc w _) (one p.text w2 G) (λg H=>by cases H;exact OQ _)
 | mat a b p=>
  simp only [T.kind]
  repeat' first | refine aW (by decide) ?_ | refine dc (by decide) ?_ | refine cF (by decide) ?_ | refine dQ (by decide) ?_
  refine cW ok ?_;refine⟨by simp only [T.hd,T.text,OF];omega,λb1 w2 hb G=>?_⟩;subst hb;exact h _ _ (G▸Ex.alloc w _) (one p.text w2 G) (λg H=>by cases H;exact OQ _)
theorem de {t:P}(ok:Ok t){w:World}{R:Value->Sl}(h:∀v w',Ex w w'->Strs w' v (t.parts.map T.text)->R v w'):
  Sm 117 #[.string (ai t.text)] w (an [.v] R):=p9 ok λv w' G h2 _=>h v w' G h2
def jb (s:Tx):Prop:=s.Pairwise (· < ·)
theorem jb.bound:∀{s:Tx},jb s->s.length<=256
 | [],_=>by simp
 | a::l,h=>by
  have key:∀(l:Tx) (a:UInt8),jb (a::l)->l.length+a.toNat<=255:=by
   intro l
   induction l with
   | nil=>intro a _;have :=a.toNat_lt;simp;omega
   | cons b l H=>
    intro a h;have G:=QX.1 h;have h2:=H b G.2;have J:=PA.1 (G.1 b (Py ..));simp only [OF];omega
  have :=key l a h;simp only [OF];omega
end Go.Proofs.YtdecokaadekjnaaGreat
