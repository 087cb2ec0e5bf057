/- Part 1 of a proof of what the last text states; no condition. -/
import Derived.WalkKit
import Derived.KernelRfl
import Derived.MapKept
import Derived.Laws.IdiomCopy
import Derived.Lib.ConvBytes
import Derived.Laws.BytesString
import Derived.Laws.MakeOwn
import Derived.OrdersHeld
import Derived.Test.YthekamjhgabkjaaGreatProg
import Derived.Below
import Derived.Deep.Onto
import Derived.Sort.Walk0
import Derived.Shelf.Small.Strs
import Derived.Sort.OwnSorted
import Derived.Shelf.Sort.Plain
import Derived.Shelf.Slices.In.SortNone
import Derived.OwnWalkIn
import Derived.Shelf.SlicesE.Delete
import Derived.TacticsInMore
import Derived.Test.YthekamjhgabkjaaGreatRows
import Derived.ProofKit
import Derived.OpenShut
import Derived.ShutString
import Derived.ChangeOld
import Derived.SliceStrings
import Derived.Carry
set_option maxRecDepth 100000
set_option maxHeartbeats 4000000
set_option linter.defProp false
set_option linter.unusedVariables false
set_option linter.unusedSimpArgs false
namespace Go.Proofs.YthekamjhgabkjaaGreat
open Go Go.RowKit
def Ov:type_of% @List.length_cons:=@List.length_cons
def Ow:type_of% @World.cell?_of_block:=@World.cell?_of_block
def Ox:type_of% @List.getElem?_eq_getElem:=@List.getElem?_eq_getElem
def Oy:type_of% @List.length_append:=@List.length_append
def Oz:type_of% @List.getElem_mem:=@List.getElem_mem
def OA:type_of% @Bool.and_eq_true:=@Bool.and_eq_true
def OB:type_of% @Nat.le_refl:=@Nat.le_refl
def OC:type_of% @List.take_succ_eq_append_getElem:=@List.take_succ_eq_append_getElem
def OD:type_of% @World.cell?_setCell_other:=@World.cell?_setCell_other
def OE:type_of% @Result.andThen_ok:=@Result.andThen_ok
def OF:type_of% @decide_eq_false_iff_not:=@decide_eq_false_iff_not
def OG:type_of% @Int.toNat_natCast:=@Int.toNat_natCast
def OH:type_of% @List.mem_append:=@List.mem_append
def OJ:type_of% @List.mem_cons_of_mem:=@List.mem_cons_of_mem
def OK:type_of% @decide_eq_true_eq:=@decide_eq_true_eq
def OL:type_of% @List.mem_singleton:=@List.mem_singleton
def OM:type_of% @List.length_map:=@List.length_map
def ON:type_of% @List.length_nil:=@List.length_nil
def OO:type_of% @List.forall_mem_cons:=@List.forall_mem_cons
def OP:type_of% @if_neg:=@if_neg
def OQ:type_of% @World.cell?_setCell_same:=@World.cell?_setCell_same
def OS:type_of% @World.frozen?_setCell:=@World.frozen?_setCell
def OT:type_of% @Sem.run_bind:=@Sem.run_bind
def OU:type_of% @UInt8.toNat_inj:=@UInt8.toNat_inj
def OV:type_of% @Sem.run_pure:=@Sem.run_pure
def OW:type_of% @of_decide_eq_true:=@of_decide_eq_true
def OX:type_of% @of_decide_eq_false:=@of_decide_eq_false
def OY:type_of% @List.mem_cons:=@List.mem_cons
def OZ:type_of% @UInt8.le_iff_toNat_le:=@UInt8.le_iff_toNat_le
def O0:type_of% @List.mem_append_right:=@List.mem_append_right
def O1:type_of% @Nat.lt_of_lt_of_le:=@Nat.lt_of_lt_of_le
def O3:type_of% @List.map_cons:=@List.map_cons
def O4:type_of% @List.take_length:=@List.take_length
def O5:type_of% @List.append_nil:=@List.append_nil
def O6:type_of% @Nat.zero_add:=@Nat.zero_add
def O7:type_of% @World.frozen?_of_block:=@World.frozen?_of_block
def O8:type_of% @Nat.mul_one:=@Nat.mul_one
def O9:type_of% @List.mem_append_left:=@List.mem_append_left
def O':type_of% @if_pos:=@if_pos
def Pa:type_of% @List.eq_nil_of_length_eq_zero:=@List.eq_nil_of_length_eq_zero
def Pb:type_of% @List.mem_cons_self:=@List.mem_cons_self
def Pd:type_of% @List.length_take:=@List.length_take
def Pe:type_of% @List.append_assoc:=@List.append_assoc
def Pf:type_of% @List.mem_map:=@List.mem_map
def Pg:type_of% @List.nodup_append:=@List.nodup_append
def Ph:type_of% @Array.getElem?_eq_some_iff:=@Array.getElem?_eq_some_iff
def Pj:type_of% @World.size_setCell:=@World.size_setCell
def Pk:type_of% @List.mem_flatMap:=@List.mem_flatMap
def Pm:type_of% @List.map_append:=@List.map_append
def Pn:type_of% @Nat.zero_le:=@Nat.zero_le
def Po:type_of% @List.cons.injEq:=@List.cons.injEq
def Pp:type_of% @List.count_append:=@List.count_append
def Pq:type_of% @Nat.le_trans:=@Nat.le_trans
def Pr:type_of% @Option.some.inj:=@Option.some.inj
def Ps:type_of% @List.drop_eq_getElem_cons:=@List.drop_eq_getElem_cons
def Pt:type_of% @List.flatMap_append:=@List.flatMap_append
def Pu:type_of% @UInt8.lt_iff_toNat_lt:=@UInt8.lt_iff_toNat_lt
def Pv:type_of% @List.nil_append:=@List.nil_append
def Pw:type_of% @List.cons.inj:=@List.cons.inj
def Px:type_of% @List.getElem?_eq_some_iff:=@List.getElem?_eq_some_iff
def Py:type_of% @List.sum_cons:=@List.sum_cons
def Pz:type_of% @List.Sublist.refl:=@List.Sublist.refl
def PA:type_of% @congrArg:=@congrArg
def PB:type_of% @List.nodup_cons:=@List.nodup_cons
def PC:type_of% @List.cons_append:=@List.cons_append
def PD:type_of% @List.filter_append:=@List.filter_append
def PE:type_of% @List.flatMap_cons:=@List.flatMap_cons
def PF:type_of% @Value.int.injEq:=@Value.int.injEq
def PG:type_of% @Bool.eq_iff_iff:=@Bool.eq_iff_iff
def PH:type_of% @List.mem_range:=@List.mem_range
def PI:type_of% @List.Perm.refl:=@List.Perm.refl
def PJ:type_of% @Option.some.injEq:=@Option.some.injEq
def PK:type_of% @List.mem_iff_getElem:=@List.mem_iff_getElem
def PL:type_of% @List.all_eq_true:=@List.all_eq_true
def PM:type_of% @List.length_singleton:=@List.length_singleton
def PN:type_of% @List.getElem?_cons_zero:=@List.getElem?_cons_zero
def PO:type_of% @Array.getElem?_toList:=@Array.getElem?_toList
def PQ:type_of% @List.all_cons:=@List.all_cons
def PS:type_of% @List.getElem?_take_of_lt:=@List.getElem?_take_of_lt
def PT:type_of% @UInt8.toNat_ofNat':=@UInt8.toNat_ofNat'
def PU:type_of% @Array.toList_map:=@Array.toList_map
def PV:type_of% @List.take_append_drop:=@List.take_append_drop
def PW:type_of% @List.length_set:=@List.length_set
def PX:type_of% @List.map_congr_left:=@List.map_congr_left
def PY:type_of% @Array.toList_inj:=@Array.toList_inj
def PZ:type_of% @List.map_map:=@List.map_map
def P0:type_of% @Bool.or_eq_true:=@Bool.or_eq_true
def P1:type_of% @Classical.byContradiction:=@Classical.byContradiction
def P2:type_of% @decide_eq_true:=@decide_eq_true
def P3:type_of% @List.nodup_nil:=@List.nodup_nil
def P4:type_of% @Bool.or_eq_false_iff:=@Bool.or_eq_false_iff
def P5:type_of% @Bool.and_self:=@Bool.and_self
def P7:type_of% @List.length_drop:=@List.length_drop
def P8:type_of% @Option.map_some:=@Option.map_some
def P9:type_of% @decide_eq_false:=@decide_eq_false
def P':type_of% @List.length_filter_le:=@List.length_filter_le
def Qa:type_of% @Bool.true_and:=@Bool.true_and
def Qb:type_of% @List.mem_map_of_mem:=@List.mem_map_of_mem
def Qc:type_of% @List.sublist_append_right:=@List.sublist_append_right
def Qd:type_of% @List.drop_length:=@List.drop_length
def Qe:type_of% @true_and:=@true_and
def Qf:type_of% @List.map_nil:=@List.map_nil
def Qg:type_of% @Bool.or_assoc:=@Bool.or_assoc
def Qh:type_of% @Array.getElem?_modify:=@Array.getElem?_modify
def Qi:type_of% @Nat.lt_or_ge:=@Nat.lt_or_ge
def Qj:type_of% @List.Sublist.append:=@List.Sublist.append
def Qk:type_of% @List.drop_zero:=@List.drop_zero
def Ql:type_of% @List.length_range:=@List.length_range
def Qm:type_of% @List.getElem?_map:=@List.getElem?_map
def Qn:type_of% @List.nodup_iff_count:=@List.nodup_iff_count
def Qo:type_of% @List.drop_eq_nil_of_le:=@List.drop_eq_nil_of_le
def Qp:type_of% @Bool.false_eq_true:=@Bool.false_eq_true
def Qq:type_of% @List.filter_eq_self:=@List.filter_eq_self
def Qr:type_of% @Below.frozen:=@Below.frozen
def Qs:type_of% @Eq.trans:=@Eq.trans
def Qt:type_of% @List.filter_cons_of_neg:=@List.filter_cons_of_neg
def Qu:type_of% @if_true:=@if_true
def Qv:type_of% @Value.string.injEq:=@Value.string.injEq
def Qw:type_of% @List.range_succ:=@List.range_succ
def Qx:type_of% @Nat.min_eq_left:=@Nat.min_eq_left
def Qy:type_of% @MapKept.run_getObj_map:=@MapKept.run_getObj_map
def Qz:type_of% @and_true:=@and_true
def QA:type_of% @Bool.not_eq_true':=@Bool.not_eq_true'
def QB:type_of% @List.perm_append_comm:=@List.perm_append_comm
def QC:type_of% @List.Pairwise.sublist:=@List.Pairwise.sublist
def QD:type_of% @List.sublist_append_left:=@List.sublist_append_left
def QE:type_of% @List.mem_filter:=@List.mem_filter
def QF:type_of% @List.getElem_map:=@List.getElem_map
def QG:type_of% @List.mem_of_getElem?:=@List.mem_of_getElem?
def QH:type_of% @List.any_eq_true:=@List.any_eq_true
def QI:type_of% @decide_eq_decide:=@decide_eq_decide
def QJ:type_of% @List.take_set_of_le:=@List.take_set_of_le
def QK:type_of% @List.eq_nil_iff_forall_not_mem:=@List.eq_nil_iff_forall_not_mem
def QL:type_of% @Bool.and_true:=@Bool.and_true
def QM:type_of% @Std.Legacy.Range.forIn_eq_forIn_range':=@Std.Legacy.Range.forIn_eq_forIn_range'
def QN:type_of% @and_assoc:=@and_assoc
def QO:type_of% @List.filter_cons_of_pos:=@List.filter_cons_of_pos
def QP:type_of% @List.all_append:=@List.all_append
def QQ:type_of% @UInt32.toBitVec_inj:=@UInt32.toBitVec_inj
def QR:type_of% @Nat.add_zero:=@Nat.add_zero
def QS:type_of% @MapKept.run_setObj_map:=@MapKept.run_setObj_map
def QT:type_of% @Bool.or_false:=@Bool.or_false
def QU:type_of% @Bool.false_or:=@Bool.false_or
def QV:type_of% @Nat.add_assoc:=@Nat.add_assoc
def QW:type_of% @List.ext_getElem:=@List.ext_getElem
def QX:type_of% @World.ownsRow.lt:=@World.ownsRow.lt
def QY:type_of% @beq_iff_eq:=@beq_iff_eq
def QZ:type_of% @run_underlying:=@run_underlying
def Q1:type_of% @Nat.eq_zero_or_pos:=@Nat.eq_zero_or_pos
def Q3:type_of% @List.getElem?_take:=@List.getElem?_take
def Q4:type_of% @World.ownsRow.mono:=@World.ownsRow.mono
def Q5:type_of% @Below.heap_setCell:=@Below.heap_setCell
def Q6:type_of% @Int.natCast_nonneg:=@Int.natCast_nonneg
def Q7:type_of% @List.mem_of_find?_eq_some:=@List.mem_of_find?_eq_some
def Q8:type_of% @Array.getElem?_eq_getElem:=@Array.getElem?_eq_getElem
def Q9:type_of% @List.getLast?_eq_getElem?:=@List.getLast?_eq_getElem?
def Ra:type_of% @List.sum_append:=@List.sum_append
def Rb:type_of% @if_false:=@if_false
def Rc:type_of% @List.length_eraseIdx:=@List.length_eraseIdx
def Re:type_of% @Option.isSome_iff_exists:=@Option.isSome_iff_exists
def Rf:type_of% @List.length_pos_iff:=@List.length_pos_iff
def Rg:type_of% @List.length_flatMap:=@List.length_flatMap
def Ri:type_of% @List.perm_middle:=@List.perm_middle
def Rj:type_of% @List.drop_drop:=@List.drop_drop
def Rk:type_of% @List.not_mem_nil:=@List.not_mem_nil
def Rl:type_of% @Nat.mul_le_mul:=@Nat.mul_le_mul
def Rm:type_of% @List.take_of_length_le:=@List.take_of_length_le
def Ro:type_of% @List.pairwise_cons:=@List.pairwise_cons
def Rp:type_of% @List.map_set:=@List.map_set
def Rq:type_of% @List.all_nil:=@List.all_nil
def Rr:type_of% @List.getElem?_toArray:=@List.getElem?_toArray
def Rt:type_of% @Nat.le_of_ble_eq_true:=@Nat.le_of_ble_eq_true
def Ru:type_of% @List.getElem?_eq_none:=@List.getElem?_eq_none
def Rv:type_of% @not_true_eq_false:=@not_true_eq_false
def Rw:type_of% @Array.toList_push:=@Array.toList_push
def Rx:type_of% @Iff.rfl:=@Iff.rfl
def Ry:type_of% @Ne.symm:=@Ne.symm
def Rz:type_of% @List.filter_congr:=@List.filter_congr
def RA:type_of% @World.ownsRow_nil:=@World.ownsRow_nil
def RB:type_of% @not_false_eq_true:=@not_false_eq_true
def RC:type_of% @Nat.mul_le_mul_right:=@Nat.mul_le_mul_right
def RD:type_of% @List.drop_left:=@List.drop_left
def RE:type_of% @Bool.false_and:=@Bool.false_and
def RF:type_of% @List.take_take:=@List.take_take
def RG:type_of% @MapKept.heap_set:=@MapKept.heap_set
def RH:type_of% @List.isEmpty_iff:=@List.isEmpty_iff
def RL:type_of% @List.flatMap_map:=@List.flatMap_map
def RM:type_of% @Value.bool.injEq:=@Value.bool.injEq
def RN:type_of% @List.take_succ_cons:=@List.take_succ_cons
def RO:type_of% @Nat.add_le_add_left:=@Nat.add_le_add_left
def RR:type_of% @List.map_eq_nil_iff:=@List.map_eq_nil_iff
def RT:type_of% @or_assoc:=@or_assoc
def RU:type_of% @or_false:=@or_false
def RV:type_of% @UInt8.toNat_add:=@UInt8.toNat_add
def RX:type_of% @Option.map_none:=@Option.map_none
def RY:type_of% @List.getElem?_drop:=@List.getElem?_drop
def RZ:type_of% @List.count_eq_zero:=@List.count_eq_zero
def R0:type_of% @List.perm_cons:=@List.perm_cons
def R1:type_of% @bytesLess_eq:=@bytesLess_eq
def R2:type_of% @Nat.le_of_lt:=@Nat.le_of_lt
def R3:type_of% @Bool.true_or:=@Bool.true_or
def R4:type_of% @Bool.and_assoc:=@Bool.and_assoc
def R5:type_of% @List.count_nil:=@List.count_nil
def R6:type_of% @Nat.sub_self:=@Nat.sub_self
def R7:type_of% @Bool.decide_or:=@Bool.decide_or
def R8:type_of% @Below.refl:=@Below.refl
def R9:type_of% @not_or:=@not_or
def Sa:type_of% @false_or:=@false_or
abbrev Sb:=World->Prop
abbrev Sc:=Calls Tryz.prog
end Go.Proofs.YthekamjhgabkjaaGreat
namespace Go.Proofs.YthekamjhgabkjaaGreat
open Go Go.RowKit
abbrev aD:=List UInt8
def ak (l:aD):ByteArray:=⟨l.toArray⟩
@[reducible] def nN {α:Type}:Array α->List α
 | ⟨l⟩=>l
def rz {α:Type}(a:Array α):nN a=a.toList:=rfl
@[reducible] def NQ {α β:Type}:α×β->β
 | (_,y)=>y
@[reducible] def KW:Oper->Op
 | ⟨_,op,_,_,_,_⟩=>op
@[reducible] def Gk:Oper->Option Nat
 | ⟨d,_,_,_,_,_⟩=>d
@[reducible] def Od:Oper->Option (Nat×Bool)
 | ⟨_,_,_,_,_,g⟩=>g
@[reducible] def N4:Oper->Nat
 | ⟨_,_,t,_,_,_⟩=>t
@[reducible] def NU:Call->Callee
 | ⟨c,_,_⟩=>c
@[reducible] def LI:Call->Array Operand
 | ⟨_,a,_⟩=>a
@[reducible] def NT:Call->Array Nat
 | ⟨_,_,t⟩=>t
@[reducible] def Nn:Field->Nat
 | ⟨_,t,_,_,_,_,_⟩=>t
@[reducible] def Mo:Field->Nat
 | ⟨_,_,o,_,_,_,_⟩=>o
@[reducible] def mapR {α β:Type} (f:α->β):List α->List β
 | []=>[]
 | x::l=>f x::mapR f l
def Kc {α β:Type}(f:α->β):∀l:List α,mapR f l=l.map f
 | []=>rfl
 | x::l=>by simp [mapR,Kc f l]
@[reducible] def Cs {α:Type}:List α->Nat
 | []=>0
 | _::l=>Cs l+1
def m8 {α:Type}:∀l:List α,Cs l=l.length
 | []=>rfl
 | _::l=>by simp [Cs,m8 l]
@[reducible] def H8 {α:Type}:List α->Nat->Bool
 | [],0=>true
 | _::l,n+1=>H8 l n
 | [],_+1=>false
 | _::_,0=>false
def BQ {α:Type}:∀{l:List α} {n:Nat},H8 l n=true->l.length=n
 | [],0,_=>rfl
 | _::l,n+1,h=>by rw [Ov,BQ (l:=l) h]
 | [],_+1,h=>by cases h
 | _::_,0,h=>by cases h
@[reducible] def ni {α:Type}:List α->Nat->Option α
 | [],_=>none
 | x::_,0=>some x
 | _::l,n+1=>ni l n
def zY {α:Type}:∀(l:List α) (n:Nat),ni l n=l[n]?
 | [],_=>rfl
 | _::_,0=>rfl
 | _::l,n+1=>by simp [ni,zY l n]
def fc {α:Type}(a:Array α)(n:Nat):ni a.toList n=a[n]?:=by rw [zY,PO]
@[reducible] def AG {α:Type}:List α->List α->List α
 | [],m=>m
 | x::l,m=>x::AG l m
def iP {α:Type}:∀l m:List α,AG l m=l++m
 | [],_=>rfl
 | x::l,m=>by simp [AG,iP l m]
@[reducible] def hasR:List Nat->Nat->Bool
 | [],_=>false
 | x::l,n=>match Nat.beq x n with
  | true=>true
  | false=>hasR l n
def tD:∀(l:List Nat) (n:Nat),hasR l n=l.contains n
 | [],_=>rfl
 | x::l,n=>by
  have h:(Nat.beq x n)=(n==x):=by
   rw [PG,Nat.beq_eq,QY];exact eq_comm
  rw [hasR,List.contains_cons,<-h,tD l n];cases Nat.beq x n<;>rfl
def H3 {l:List Nat}{n:Nat}(h:hasR l n=true):n∈l:=by rw [tD]at h;simpa using h
@[reducible] def setR {α:Type}:List α->Nat->α->Option (List α)
 | [],_,_=>none
 | _::l,0,y=>some (y::l)
 | x::l,n+1,y=>match setR l n y with
  | some r=>some (x::r)
  | none=>none
def zQ {α:Type}{y:α}:∀{l r:List α} {n:Nat},setR l n y=some r->n< l.length/\r=l.set n y
 | [],_,_,h=>by cases h
 | _::l,_,0,h=>by cases h;exact⟨by simp,rfl⟩
 | x::l,_,n+1,h=>by
  simp only [setR]at h;split at h
  ·rename_i r hr;cases h;obtain⟨G,H⟩:=zQ hr;exact⟨by simpa using G,by rw [H];rfl⟩
  ·cases h
@[reducible] def C8 {α:Type}:List α->Nat->List α->Option (List α)
 | l,0,[]=>some l
 | [],0,_::_=>none
 | _::l,0,y::G=>match C8 l 0 G with
  | some r=>some (y::r)
  | none=>none
 | [],_+1,_=>none
 | x::l,n+1,G=>match C8 l n G with
  | some r=>some (x::r)
  | none=>none
def yQ {α:Type}:∀{l r:List α} {n:Nat} {G:List α},C8 l n G=some r->n+G.length<=l.length/\r=l.take n++G++l.drop (n+G.length)
 | [],_,0,[],h=>by cases h;exact⟨by simp,by simp⟩
 | _::_,_,0,[],h=>by cases h;exact⟨by simp,by simp⟩
 | [],_,0,_::_,h=>by cases h
 | _::l,_,0,y::G,h=>by
  simp only [C8]at h;split at h
  ·rename_i r hr;cases h;obtain⟨J,H⟩:=yQ hr;refine⟨by simpa using J,?_⟩;rw [H];simp
  ·cases h
 | [],_,_+1,_,h=>by cases h
 | x::l,_,n+1,G,h=>by
  simp only [C8]at h;split at h
  ·rename_i r hr;cases h;obtain⟨J,H⟩:=yQ hr;refine⟨by rw [Ov];omega,?_⟩;rw [H,show n+1+G.length=n+G.length+1 by omega];simp
  ·cases h
@[reducible] def Jz {α:Type}:Nat->List α->List α
 | 0,_=>[]
 | n+1,l=>AG l (Jz n l)
def E5 {α:Type}:∀(n:Nat) (l:List α),Jz n l=(List.replicate n l).flatten
 | 0,_=>rfl
 | n+1,l=>by simp [Jz,iP,E5 n l,List.replicate_succ]
def lf {a b:Nat}(h:Nat.beq a b=true):a=b:=Nat.eq_of_beq_eq_true h
@[reducible] def IW {α:Type} (f:α->Bool):List α->Bool
 | []=>true
 | x::l=>match f x with
  | true=>IW f l
  | false=>false
def DR {α:Type}(f:α->Bool):∀l:List α,IW f l=l.all f
 | []=>rfl
 | x::l=>by
  rw [IW,PQ,DR f l];cases f x<;>rfl
@[reducible] def nR {α:Type}:List (Nat×α)->Nat->Option α
 | [],_=>none
 | (t,x)::l,n=>match Nat.beq t n with
  | true=>some x
  | false=>nR l n
def rb {α:Type}:∀{l:List (Nat×α)} {n:Nat} {x:α},nR l n=some x->(n,x)∈l
 | [],n,x,h=>by cases h
 | (t,y)::l,n,x,h=>by
  simp only [nR]at h;split at h
  ·rename_i heq;have :=Nat.eq_of_beq_eq_true heq;subst this;cases h;exact Pb
  ·exact OJ _ (rb h)
def bt (l:List UInt8)(i:Nat):UInt8:=l.getD i 0
inductive SV where
 | v (x:Value) | i (n:Int) | c (x:UInt8) | w (x:UInt32) | s (l:aD) | b (x:Bool) | tt | ff | un
 | a (blk off:Nat) | r (n:Int)
 | tup (xs:List SV)
 | ag (xs:List SV)
 | agl (cs:List Value)
mutual
@[reducible] def SV.val:SV->Value
 | .v x=>x | .i n=> .int .i64 n | .c x=> .int .u8 x.toNat | .w x=> .int .u32 x.toNat | .s l=> .string (ak l) | .b x=> .bool x
 | .tt=> .bool true | .ff=> .bool false | .un=>undef | .a blk off=> .pointer (some ⟨blk,off,none⟩)
 | .r n=> .int .i32 n
 | .tup xs=> .tuple (SV.aS xs).toArray
 | .ag xs=> .agg (SV.aS xs).toArray
 | .agl cs=> .agg cs.toArray
@[reducible] def SV.aS:List SV->List Value
 | []=>[]
 | x::xs=>x.val::SV.aS xs
end
inductive Kd where
 | i | c | w | s | b | v
 deriving DecidableEq
abbrev Kd.T:Kd->Type
 | .i=>Int | .c=>UInt8 | .w=>UInt32 | .s=>aD | .b=>Bool | .v=>Value
@[reducible] def Kd.sv:(k:Kd)->k.T->SV
 | .i=>SV.i | .c=>SV.c | .w=>SV.w | .s=>SV.s | .b=>SV.b | .v=>SV.v
@[reducible] def Kd.un:(k:Kd)->SV->Option k.T
 | .i,.i n=>some n
 | .c,.c x=>some x
 | .w,.w x=>some x
 | .s,.s l=>some l
 | .b,.b x=>some x
 | .b,.tt=>some true
 | .b,.ff=>some false
 | .v,.v x=>some x
 | .v,.a blk off=>some (.pointer (some ⟨blk,off,none⟩))
 | .v,.ag xs=>some (.agg (SV.aS xs).toArray)
 | .v,.agl cs=>some (.agg cs.toArray)
 | _,_=>none
def Kd.C3 {k:Kd}{x:SV}{t:k.T}(h:k.un x=some t):x.val=(k.sv t).val:=by
 cases k<;>cases x<;>simp [Kd.un]at h<;>(try subst h)<;>rfl
abbrev Cur:List Kd->Type
 | []=>Sb
 | k::L=>k.T->Cur L
def optK {α:Type}:Option α->(α->Prop)->Prop
 | some x,k=>k x
 | none,_=>False
def bV {α:Type}{x:Option α}{k:α->Prop}(h:optK x k):∃y,x=some y/\k y:=by
 cases x with
 | none=>exact h.elim
 | some y=>exact⟨y,rfl,h⟩
def optN {α:Type}:Option α->(α->Nat)->Nat
 | some x,k=>k x
 | none,_=>0
def Cur.app:(L:List Kd)->Cur L->List SV->Sb
 | [],R,[],w=>R w
 | k::L,R,x::xs,w=>optK (k.un x) λt=>Cur.app L (R t) xs w
 | _,_,_,_=>False
def Cur.mk:(L:List Kd)->(List SV->Sb)->Cur L
 | [],K=>K []
 | k::L,K=>λt=>Cur.mk L (λxs=>K (k.sv t::xs))
def AllT:(L:List Kd)->(List SV->Prop)->Prop
 | [],K=>K []
 | k::L,K=>∀t:k.T,AllT L (λxs=>K (k.sv t::xs))
@[reducible] def valOf:List SV->Value
 | [x]=>x.val
 | xs=> .tuple (SV.aS xs).toArray
def ly:(L:List Kd)->Cur L->List SV->Ending->Sb
 | [],R,acc,e,w=>e= .returned (valOf acc)/\R w
 | k::L,R,acc,e,w=>∃t:k.T,ly L (R t) (acc++[k.sv t]) e w
def aw (L:List Kd)(R:Cur L):Ending->Sb:=ly L R []
def ly.get:∀(L:List Kd) (R:Cur L) (acc:List SV) (e:Ending) (w:World),ly L R acc e w->
  ∃xs:List SV,e= .returned (valOf (acc++xs))/\Cur.app L R xs w/\xs.length=L.length
 | [],R,acc,e,w,h=>⟨[],by simpa using h.1,h.2,rfl⟩
 | k::L,R,acc,e,w,⟨t,h⟩=>by
  obtain⟨xs,G,H,J⟩:=ly.get L (R t) _ e w h;refine⟨k.sv t::xs,by simpa using G,?_,by simp [J]⟩;have:k.un (k.sv t)=some t:=by cases k<;>rfl
  rw [Cur.app,this];exact H
def Cur.DB:∀(L:List Kd) (K:List SV->Sb) (xs:List SV) (w:World),Cur.app L (Cur.mk L K) xs w->
  ∃G:List SV,SV.aS G=SV.aS xs/\K G w
 | [],K,[],w,h=>⟨[],rfl,h⟩
 | [],K,_::_,w,h=>h.elim
 | k::L,K,[],w,h=>h.elim
 | k::L,K,x::xs,w,h=>by
  rw [Cur.app]at h;obtain⟨t,H,h⟩:=bV h;obtain⟨G,J,Z⟩:=Cur.DB L _ xs w h;exact⟨k.sv t::G,by simp [SV.aS,J,Kd.C3 H],Z⟩
def aw.mono {L:List Kd}{R G:Cur L}(h:∀xs w,Cur.app L R xs w->Cur.app L G xs w){e:Ending}{w:World}(hr:aw L R e w):aw L G e w:=by
 unfold aw at*;revert h hr;generalize ([]:List SV)=acc
 induction L generalizing acc with
 | nil=>exact λh hr=>⟨hr.1,h [] w hr.2⟩
 | cons k L J=>
  rintro h ⟨t,Z⟩
  refine⟨t,J _ (λxs w hx=>?_) Z⟩;have H:k.un (k.sv t)=some t:=by cases k<;>rfl
  have :=h (k.sv t::xs) w (by rw [Cur.app,H];exact hx);rw [Cur.app,H]at this;exact this
abbrev Env:=List (Nat×SV)
@[reducible] def look:Env->Nat->Option SV
 | [],_=>none
 | (t,x)::e,n=>match Nat.beq t n with
  | true=>some x
  | false=>look e n
@[reducible] def NB:Int->Option UInt8
 | .ofNat n=>match Nat.ble 256 n with
  | true=>none
  | false=>some (UInt8.ofNat n)
 | .negSucc _=>none
@[reducible] def JS:Int->Option UInt32
 | .ofNat n=>match Nat.ble 4294967296 n with
  | true=>none
  | false=>some (UInt32.ofNat n)
 | .negSucc _=>none
def H' {n:Int}{c:UInt8}(h:NB n=some c):n=c.toNat:=by
 cases n with
 | negSucc m=>cases h
 | ofNat m=>
  simp only [NB]at h;split at h
  ·cases h
  ·rename_i hb;cases h;have:¬256<=m:=λG=>by rw [Nat.ble_eq_true_of_le G]at hb;cases hb
   simp only [PT,Nat.reducePow,Int.ofNat_eq_natCast];omega
def Ef {n:Int}{c:UInt32}(h:JS n=some c):n=c.toNat:=by
 cases n with
 | negSucc m=>cases h
 | ofNat m=>
  simp only [JS]at h;split at h
  ·cases h
  ·rename_i hb;cases h;have:¬4294967296<=m:=λG=>by rw [Nat.ble_eq_true_of_le G]at hb;cases hb
   simp only [UInt32.toNat_ofNat',Nat.reducePow,Int.ofNat_eq_natCast];omega
def aF (N:Nat)(e:Env)(a:Act):Prop:=a.tmps.size=N/\∀t x,look e t=some x->a.tmps.getD t undef=x.val
def aF.put {N:Nat}{e:Env}{a:Act}(h:aF N e a){d:Nat}(hd:d< N){x:SV}{v:Value}(Z:v=x.val):aF N ((d,x)::e) (a.put (some d) v):=by
 subst Z;refine⟨by simp [Act.put,h.1],λt y J=>?_⟩;simp only [look]at J;split at J
 ·rename_i heq;have :=Nat.eq_of_beq_eq_true heq;subst this;cases J;simp [Act.put,Array.getD,h.1,hd]
 ·rename_i G;have H:d≠t:=λe=>by rw [e,Nat.beq_refl]at G;cases G
  rw [<-h.2 t y J];show(a.tmps.setIfInBounds d x.val).getD t undef=_;simp only [Array.getD,Array.size_setIfInBounds];split
  ·exact Array.getElem_setIfInBounds_ne _ H
  ·rfl
@[reducible] def ev (e:Env):Operand->Option SV
 | .tmp t=>look e t
 | .const (.int .i64 n)=>some (.i n)
 | .const (.int .u8 n)=>match NB n with
  | some c=>some (.c c)
  | none=>some (.v (.int .u8 n))
 | .const (.int .u32 n)=>match JS n with
  | some c=>some (.w c)
  | none=>some (.v (.int .u32 n))
 | .const (.string s)=>some (.s s.data.toList)
 | .const (.bool true)=>some .tt
 | .const (.bool false)=>some .ff
 | .const v=>some (.v v)
 | .global g=>some (.a g 0)
 | .func f=>some (.v (.func (.func f) #[] #[]))
def aH {N:Nat}{e:Env}{a:Act}(h:aF N e a){x:Operand}{y:SV}(G:ev e x=some y):a.eval x=y.val:=by
 cases x with
 | tmp t=>exact h.2 t y G
 | global g=>simp [ev]at G;subst G;rfl
 | func f=>simp [ev]at G;subst G;rfl
 | const v=>
  unfold ev at G;split at G<;>(try (rename_i heq;cases heq))
  all_goals first
   | (cases G;rfl)
   | skip
  ·split at G<;>cases G
   ·rename_i H;exact PA (Value.int .u8) (H' H)
   ·rfl
  ·split at G<;>cases G
   ·rename_i H;exact PA (Value.int .u32) (Ef H)
   ·rfl
attribute [go_sem] Cur Kd.sv Kd.T SV.val SV.aS valOf
structure ef where
 P:Program
 und:Nat->Option TypeDesc
 und_ok:∀t d,und t=some d->P.underlying t=some d
 inf:Nat->Option (Value×Nat×Nat)
 inf_ok:∀t z s b,inf t=some (z,s,b)->∃i,P.info? t=some i/\i.zero=some z/\i.size=s/\i.bytes=b
 fn:Nat->Bool
 fn_ok:∀f,fn f=true->∃g,P.funcs[f]?=some g/\g.body.isNone=false/\(g.name== "runtime.NumGoroutine")=false
 mixed:P.follows .mixedOrders=true
@[reducible] def ef.U (T:ef) (t:Nat):Option TypeDesc:=match T with
 | ⟨_,u,_,_,_,_,_,_⟩=>u t
@[reducible] def ef.I (T:ef) (t:Nat):Option (Value×Nat×Nat):=match T with
 | ⟨_,_,_,i,_,_,_,_⟩=>i t
@[reducible] def ef.F (T:ef) (f:Nat):Bool:=match T with
 | ⟨_,_,_,_,_,b,_,_⟩=>b f
@[reducible] def AZ (d:Option TypeDesc):Kd:=match d with
 | some (.int .i64)=> .i | some (.int .u8)=> .c | some (.int .u32)=> .w | some .string=> .s | some .bool=> .b | _=> .v
@[reducible] def GH (T:ef) (t:Nat):List Kd:=match T.U t with
 | some (.tuple ts)=>mapR (λu=>AZ (T.U u)) (nN ts)
 | d=>[AZ d]
abbrev bG (n:Int):Prop:= -9223372036854775808<=n/\n<=9223372036854775807
def jV {n:Int}(h:bG n):IntKind.i64.wrap n=n:=by
 exact IntWalk.i64_in n h
def Bt (x:UInt32)(n:Nat):UInt32:=UInt32.ofNat (x.toNat* 2^(min n 32))
@[reducible] def binT (op:BinOp) (x y:SV):Option SV:=match op,x,y with
 | .eql,.i a,.i b=>some (.b (decide (a=b)))
 | .neq,.i a,.i b=>some (.b (!decide (a=b)))
 | .lss,.i a,.i b=>some (.b (decide (a< b)))
 | .leq,.i a,.i b=>some (.b (decide (a<=b)))
 | .gtr,.i a,.i b=>some (.b (decide (b< a)))
 | .geq,.i a,.i b=>some (.b (decide (b<=a)))
 | .eql,.c a,.c b=>some (.b (decide (a=b)))
 | .neq,.c a,.c b=>some (.b (!decide (a=b)))
 | .lss,.c a,.c b=>some (.b (decide (a< b)))
 | .leq,.c a,.c b=>some (.b (decide (a<=b)))
 | .gtr,.c a,.c b=>some (.b (decide (b< a)))
 | .geq,.c a,.c b=>some (.b (decide (b<=a)))
 | .add,.c a,.c b=>some (.c (a+b))
 | .sub,.c a,.c b=>some (.c (a - b))
 | .eql,.s a,.s b=>some (.b (decide (a=b)))
 | .neq,.s a,.s b=>some (.b (!decide (a=b)))
 | .lss,.s a,.s b=>some (.b (Op.bytesLess a b))
 | .leq,.s a,.s b=>some (.b (Op.bytesLess a b||decide (a=b)))
 | .gtr,.s a,.s b=>some (.b (!(Op.bytesLess a b||decide (a=b))))
 | .geq,.s a,.s b=>some (.b (!Op.bytesLess a b))
 | .and,.w a,.w b=>some (.w (a &&& b))
 | .or,.w a,.w b=>some (.w (a ||| b))
 | .xor,.w a,.w b=>some (.w (a^^^b))
 | .andNot,.w a,.w b=>some (.w (a &&& ~~~b))
 | .eql,.w a,.w b=>some (.b (decide (a=b)))
 | .neq,.w a,.w b=>some (.b (!decide (a=b)))
 | .shl,.w a,.c n=>some (.w (Bt a n.toNat))
 | _,_,_=>none
@[reducible] def binP (op:BinOp) (x y:SV):Option (Prop×SV):=match op,x,y with
 | .add,.i a,.i b=>some (bG (a+b),.i (a+b))
 | .sub,.i a,.i b=>some (bG (a - b),.i (a - b))
 | .mul,.i a,.i b=>some (bG (a* b),.i (a* b))
 | .quo,.i a,.i b=>some (0<=a/\0< b/\bG a,.i (a / b))
 | .rem,.i a,.i b=>some (0<=a/\0< b,.i (a % b))
 | .add,.s a,.s b=>some (a.length+b.length<=4611686018427387904,.s (a++b))
 | .shl,.w a,.i n=>some (0<=n,.w (Bt a n.toNat))
 | _,_,_=>none
def gm (l:aD):(ak l).size=l.length:=by simp [ak,ByteArray.size]
def oI (l:aD):(ak l).toList=l:=by
 have:∀n i acc,l.length - i=n->ByteArray.toList.loop (ak l) i acc=acc.reverse++l.drop i:=by
  intro n
  induction n with
  | zero=>
   intro i acc h;unfold ByteArray.toList.loop;rw [OP (by rw [gm];omega),Qo (by omega)];simp
  | succ n G=>
   intro i acc h;have hi:i< l.length:=by omega
   unfold ByteArray.toList.loop;rw [O' (by rw [gm];exact hi),G _ _ (by omega),Ps hi];have:(ak l).get! i=l[i]:=by simp [ak,ByteArray.get!,hi]
   simp [this]
 simpa [ByteArray.toList]using this _ 0 [] rfl
def Db (a b:aD):ak a++ak b=ak (a++b):=by
 apply ByteArray.ext;simp [ak]
def m9 {a b:aD}(h:ak a=ak b):a=b:=by simpa [ak]using h
def A5 (l:aD)(i j:Nat):(ak l).extract i j=ak ((l.take j).drop i):=by
 apply ByteArray.ext;simp [ak,ByteArray.data_extract,List.drop_take]
def Lk (s:ByteArray):s=ak s.data.toList:=by cases s;simp [ak]
def iV {α:Type}[BEq α][LawfulBEq α][DecidableEq α](a b:α):(a==b)=decide (a=b):=by
 rw [PG];simp
def NP (a b:UInt8):((a.toNat:Int)==(b.toNat:Int))=decide (a=b):=by
 rw [PG];simp only [QY,OK];constructor
 ·intro h;exact OU.1 (by omega)
 ·rintro rfl;rfl
def Jo (a b:UInt32):((a.toNat:Int)==(b.toNat:Int))=decide (a=b):=by
 rw [PG];simp only [QY,OK];constructor
 ·intro h;exact UInt32.toNat_inj.1 (by omega)
 ·rintro rfl;rfl
def wrap_u8 (n:Int):IntKind.u8.wrap n=n % 256:=by simp [IntKind.wrap,IntKind.bits,IntKind.signed]
def wrap_u32 (n:Int):IntKind.u32.wrap n=n % 4294967296:=by simp [IntKind.wrap,IntKind.bits,IntKind.signed]
def L5 (a:UInt32):BitVec.ofInt IntKind.u32.bits (a.toNat:Int)=a.toBitVec:=by
 apply BitVec.eq_of_toNat_eq;have :=a.toNat_lt;simp [IntKind.bits]
def eqGuard_plain {P:Program}{w:World}{op:BinOp}{t:TypeId}{x y:Operand}{a b:Value}
  (h:(match a,b with | .nilIface,.nilIface=>false | .agg _,.agg _=>false | _,_=>true)=true):(eqGuard op t x y a b).run P w= .ok () w:=by
 unfold eqGuard;cases a<;>cases b<;>simp at h<;>cases op<;>rfl
def yU {T:ef}{o:Oper}{op:BinOp}{t J:Nat}{G H:Operand}{ρ:Operand->Value}{v:Value}{w:World}(Z:o.op= .binOp op t G H J)
  (hg:(eqGuard op t G H (ρ G) (ρ H)).run T.P w= .ok () w) (h:(binOp op t (ρ G) (ρ H)).run T.P w= .ok v w):(execOp ρ o).run T.P w= .ok (.value v) w:=by
 simp only [execOp,Z,OT,hg,OE,h,OV]
def Og {a b:UInt8}:((a.toNat:Int)=b.toNat)↔a=b:=⟨λh=>OU.1 (by omega),λh=>by rw [h]⟩
def Oj {a b:UInt8}:((a.toNat:Int)< b.toNat)↔a< b:=by rw [Pu];omega
def Ou {a b:UInt8}:((a.toNat:Int)<=b.toNat)↔a<=b:=by rw [OZ];omega
def NK {a b:UInt32}:((a.toNat:Int)=b.toNat)↔a=b:=⟨λh=>UInt32.toNat_inj.1 (by omega),λh=>by rw [h]⟩
def LG (a b:UInt8):IntKind.u8.wrap ((a.toNat:Int)+b.toNat)=(a+b).toNat:=by rw [wrap_u8,RV];omega
def Mu (a b:UInt8):IntKind.u8.wrap ((a.toNat:Int) - b.toNat)=(a - b).toNat:=by
 have :=a.toNat_lt;have :=b.toNat_lt;rw [wrap_u8,UInt8.toNat_sub];omega
def Df (x:UInt32):IntKind.u32.wrap (x.toBitVec.toNat:Int)=x.toNat:=by
 have :=x.toNat_lt;rw [wrap_u32];show((x.toNat:Int)) % 4294967296=_;omega
def I2 (a b:UInt32):IntKind.u32.wrap ((a.toBitVec &&& b.toBitVec).toNat:Int)=(a &&& b).toNat:=Df (a &&& b)
def Lm (a b:UInt32):IntKind.u32.wrap ((a.toBitVec ||| b.toBitVec).toNat:Int)=(a ||| b).toNat:=Df (a ||| b)
def Ks (a b:UInt32):IntKind.u32.wrap ((a.toBitVec^^^b.toBitVec).toNat:Int)=(a^^^b).toNat:=Df (a^^^b)
def I1 (a b:UInt32):IntKind.u32.wrap ((a.toBitVec &&& ~~~b.toBitVec).toNat:Int)=(a &&& ~~~b).toNat:=Df (a &&& ~~~b)
def Ey (a:UInt32)(n:Nat):IntKind.u32.wrap ((a.toNat:Int)* 2^(min n IntKind.u32.bits))=(Bt a n).toNat:=by
 rw [wrap_u32];rw [Bt,UInt32.toNat_ofNat'];show((a.toNat:Int)* 2^(min n 32)) % 4294967296=((a.toNat* 2^min n 32 % 4294967296:Nat):Int);rw [Int.natCast_emod,Int.natCast_mul,Int.natCast_pow];rfl
def GD {P:Program}{op:BinOp}{t:Nat}{x y z:SV}{w:World}(h:binT op x y=some z):(binOp op t x.val y.val).run P w= .ok z.val w:=by
 unfold binT at h;split at h<;>cases h<;>simp only [SV.val,binOp,ne_eq,Rv,Rb,Op.intCmp,Op.intArith,Op.intBits,Op.stringOp,Op.shift,OV,iV,bne,oI,Bool.not_or,
  Og,Oj,Ou,NK,gt_iff_lt,ge_iff_le,LG,Mu,L5]
 ·exact PA (λv=>Result.ok (Value.int .u32 v) w) (I2 _ _)
 ·exact PA (λv=>Result.ok (Value.int .u32 v) w) (Lm _ _)
 ·exact PA (λv=>Result.ok (Value.int .u32 v) w) (Ks _ _)
 ·exact PA (λv=>Result.ok (Value.int .u32 v) w) (I1 _ _)
 rw [OP (by omega),OV,OG,Ey]
def Iw {P:Program}{op:BinOp}{t:Nat}{x y z:SV}{p:Prop}{w:World}(h:binP op x y=some (p,z))(G:p):(binOp op t x.val y.val).run P w= .ok z.val w:=by
 unfold binP at h;split at h<;>cases h<;>simp only [SV.val,binOp,ne_eq,Rv,Rb,Op.intArith,Op.intDiv,Op.stringOp,Op.shift,OV]
 ·rw [jV G]
 ·rw [jV G]
 ·rw [jV G]
 ·obtain⟨H,J,Z⟩:=G;rw [OP (by omega),OV,Int.tdiv_eq_ediv_of_nonneg H,jV];rename_i a b;have h3:0<=a / b:=Int.ediv_nonneg H (by omega);have h4:a / b<=a:=Int.ediv_le_self b H;unfold bG at*;omega
 ·rw [OP (by omega),OV,Int.tmod_eq_emod_of_nonneg G.1]
 ·rw [OP,OV,Db];rw [gm,gm];simp only [IntKind.max,IntKind.signed,IntKind.bits];simp;omega
 ·rw [OP (by omega),OV,Ey]
def yk (x:SV)(h:∀y,x≠ .v y)(G:∀y,x≠ .tup y)(H:∀y,x≠ .ag y)(J:∀y,x≠ .agl y):∀b:Value,(match x.val,b with | .nilIface,.nilIface=>false | .agg _,.agg _=>false | _,_=>true)=true:=by
 intro b;cases x<;>simp only [SV.val]<;>first | rfl | (exact absurd rfl (h _)) | (exact absurd rfl (G _)) | (exact absurd rfl (H _)) | (exact absurd rfl (J _))
attribute [go_sem] GH AZ
@[reducible] def lW:List SV->SV
 | []=> .tup []
 | [x]=>x
 | x::y::xs=> .tup (x::y::xs)
@[reducible] def evs (e:Env):List Operand->Option (List SV)
 | []=>some []
 | x::xs=>match ev e x,evs e xs with
  | some y,some G=>some (y::G)
  | _,_=>none
@[reducible] def single (d:Option TypeDesc):Bool:=match d with
 | some (.struct _) | some (.array _ _) | some (.tuple _) | some (.named _ _) | none=>false
 | _=>true
@[reducible] def yz (d:Option TypeDesc):Bool:=match d with
 | some (.struct _)=>true
 | some (.array _ _)=>true
 | _=>false
def NJ (k:Kd)(K:SV->Prop):Prop:=∃t:k.T,K (k.sv t)
@[reducible] def NH:SV->Option Int
 | .i n=>some n
 | .c x=>some x.toNat
 | _=>none
@[reducible] def Nh:SV->Option Bool
 | .b x=>some x
 | .tt=>some true
 | .ff=>some false
 | _=>none
@[reducible] def LQ:SV->Option SV
 | .b x=>some (.b (!x))
 | .tt=>some .ff
 | .ff=>some .tt
 | _=>none
@[reducible] def oneV:Value->Bool
 | .agg _=>false
 | .tuple _=>false
 | _=>true
def oneOk:SV->Prop->Prop
 | .v x,p=>oneV x=true/\p
 | .i _,p=>p
 | .c _,p=>p
 | .w _,p=>p
 | .s _,p=>p
 | .b _,p=>p
 | .tt,p=>p
 | .ff,p=>p
 | .a _ _,p=>p
 | .r _,p=>p
 | .tup _,_=>False
 | .ag _,_=>False
 | .agl _,_=>False
 | .un,_=>False
@[reducible] def cellsOf:SV->List Value
 | .ag xs=>SV.aS xs
 | .agl cs=>cs
 | y=>[y.val]
def okC:SV->Prop->Prop
 | .v x,p=>oneV x=true/\p
 | .i _,p=>p
 | .c _,p=>p
 | .w _,p=>p
 | .s _,p=>p
 | .b _,p=>p
 | .tt,p=>p
 | .ff,p=>p
 | .a _ _,p=>p
 | .r _,p=>p
 | .ag _,p=>p
 | .agl _,p=>p
 | .tup _,_=>False
 | .un,_=>False
def okAllC:List (Nat×SV)->Prop->Prop
 | [],p=>p
 | (_,z)::xs,p=>okC z (okAllC xs p)
@[reducible] def svOf:Value->SV
 | .int .i64 n=> .i n
 | .int .u8 n=>match NB n with
  | some c=> .c c
  | none=> .v (.int .u8 n)
 | .int .u32 n=>match JS n with
  | some c=> .w c
  | none=> .v (.int .u32 n)
 | .string s=> .s s.data.toList
 | .bool true=> .tt
 | .bool false=> .ff
 | x=> .v x
@[reducible] def cellK (T:ef) (t:Nat):Option (List Kd):=match T.U t with
 | some (.struct fs)=>match IW (λf=>single (T.U (Nn f))) (nN fs)with
  | true=>some (mapR (λf=>AZ (T.U (Nn f))) (nN fs))
  | false=>none
 | some (.array n el)=>match Nat.beq n 2,single (T.U el)with
  | true,true=>some [AZ (T.U el),AZ (T.U el)]
  | _,_=>none
 | _=>none
def CellsAt (w:World)(b:Nat):Nat->List SV->Prop
 | _,[]=>True
 | off,x::xs=>w.cell? ⟨b,off,none⟩=some x.val/\CellsAt w b (off+1) xs
def ExL:(L:List Kd)->(List SV->Prop)->Prop
 | [],K=>K []
 | k::L,K=>∃t:k.T,ExL L λxs=>K (k.sv t::xs)
def yW (w:World)(b off n:Nat)(cs:List Value)(k:SV->Sb):Prop:=
 (cs.length=n/\cs.all oneV=true/\∀j,j< n->(∃u,w.cell? ⟨b,off+j,none⟩=some u)/\w.frozen? ⟨b,off+j,none⟩=false)/\∀w',w'=World.setCells w b off cs->k .un w'
@[reducible] def yl:SV->Bool
 | .ag _=>false
 | .agl _=>false
 | .tup _=>false
 | _=>true
@[reducible] def ud:Value->List Value
 | .agg cs=>nN cs
 | v=>[v]
def mA (v:Value):ud v=v.cells.toList:=by cases v<;>rfl
@[reducible] def is1:Option (Value×Nat×Nat)->Option (Value×Nat)
 | some (z,n,b)=>match Nat.beq n 1 with
  | true=>some (z,b)
  | false=>none
 | none=>none
def oh {x:Option (Value×Nat×Nat)}{z:Value}{b:Nat}(h:is1 x=some (z,b)):x=some (z,1,b):=by
 unfold is1 at h;split at h
 ·split at h
  ·rename_i G;cases h;rw [lf G]
  ·cases h
 ·cases h
@[reducible] def arr2:Option TypeDesc->Option Nat
 | some (.array n el)=>match Nat.beq n 2 with
  | true=>some el
  | false=>none
 | _=>none
@[reducible] def buildAg (T:ef) (fs:Array Field):List SV->List (Nat×SV)->Option (List SV)
 | zs,[]=>some zs
 | zs,(i,x)::r=>match ni (nN fs) i with
  | some fd=>(match is1 (T.I (Nn fd)),yl x with
   | some (_,_),true=>(match setR zs (Mo fd) x with
    | some G=>buildAg T fs G r
    | none=>none)
   | _,_=>none)
  | none=>none
@[reducible] def buildRow (sz:Nat):List Value->List (Nat×SV)->Option (List Value)
 | zs,[]=>some zs
 | zs,(i,x)::r=>match H8 (cellsOf x) sz,C8 zs (Nat.mul i sz) (cellsOf x)with
  | true,some G=>buildRow sz G r
  | _,_=>none
@[reducible] def evp (e:Env):List (Nat×Operand)->Option (List (Nat×SV))
 | []=>some []
 | (i,x)::r=>match ev e x,evp e r with
  | some y,some G=>some ((i,y)::G)
  | _,_=>none
def fp (w:World)(x:Value)(m:Nat)(sz:Nat)(news:List Value):Prop:=
 news.length=m* sz/\news.all oneV=true/\((x= .slice none m 0/\m=0)\/∃b off c,x= .slice (some ⟨b,off,none⟩) m c/\∀j u,news[j]?=some u->w.cell? ⟨b,off+j,none⟩=some u)
def ux (el sz by_:Nat)(s x:Value)(w:World)(k:SV->Sb):Prop:=
 ∃(base n m:Nat) (xs news:List Value),w.ownsRow base el sz s n xs/\base<=w.heap.size/\fp w x m sz news/\(n+m<=maxLen/\(n+m)* by_<=140737488355328)/\
  ∀v w',w'.ownsRow base el sz v (n+m) (xs++news)->w.grownBy w' s.ownBlock->(∀b,v.ownBlock=some b->s.ownBlock=some b\/w.heap.size<=b)->k (.v v) w'
def nilP:Value->Option Bool
 | .pointer q=>some q.isNone
 | .slice a _ _=>some a.isNone
 | .map r=>some r.isNone
 | _=>none
def dQ (l:aD):List Value:=l.map λc=> .int .u8 c.toNat
def Ae (w:World)(el b:Nat)(l:aD):Prop:=
 ∃cur lo hi,w.heap[b]?=some (.cells cur el (lo,hi))/\cur.toList.take l.length=dQ l/\l.length<=cur.size/\cur.size<=lo
def oneOk.get {z:SV}{p:Prop}(h:oneOk z p):oneV z.val=true/\p:=by
 cases z<;>simp only [oneOk]at h<;>first | exact⟨rfl,h⟩ | exact h
@[reducible] def buildAr:List SV->List (Nat×SV)->Option (List SV)
 | zs,[]=>some zs
 | zs,(i,x)::r=>match yl x,setR zs i x with
  | true,some G=>buildAr G r
  | _,_=>none
@[reducible] def evI (e:Env) (x:Operand):Option Int:=match ev e x with
 | some y=>NH y
 | none=>none
def Bv {e:Env}{x:Operand}{n:Int}(h:evI e x=some n):∃y,ev e x=some y/\NH y=some n:=by
 unfold evI at h;split at h
 ·exact⟨_,by assumption,h⟩
 ·cases h
@[reducible] def KE {α β:Type} (f:α->β):Option α->Option β
 | some x=>some (f x)
 | none=>none
@[reducible] def Oa (e:Env):Option Operand->Option SV
 | some x=>ev e x
 | none=>none
@[reducible] def MC {α:Type}:Option α->Bool
 | some _=>true
 | none=>false
def E6 {α:Type}(x:Option α):MC x=x.isSome:=by cases x<;>rfl
def MY (T:ef)(t:Nat)(a b:Value)(q:Bool):Prop:=∀G H w,(eqGuard .eql t G H a b).run T.P w= .ok () w/\(binOp .eql t a b).run T.P w= .ok (.bool q) w
inductive PR where
 | ret (y:SV) | req (p:Prop) (y:SV) | ok (ps:List (Nat×SV)) (y:SV)
 | nilP (q:Bool) (p:Value) | nilS (q:Bool) (p:Value) | arr (p q:Value)
 | sl (sz:Nat) (v:Value) (lo:Int) (hi:Option Int)
 | ptr (v:Value) | ix (sz:Nat) (v:Value) (n:Int) | len (v:Value) | raw (p:Bool->Prop) | bad
def runPR:PR->(SV->Prop)->Prop
 | .ret y,k=>k y
 | .req p y,k=>p/\k y
 | .ok ps y,k=>okAllC ps (k y)
 | .nilP true p,k=>∃q,p= .pointer q/\k (.b q.isNone)
 | .nilP false p,k=>∃q,p= .pointer q/\k (.b (!q.isNone))
 | .nilS true p,k=>∃q n c,p= .slice q n c/\k (.b q.isNone)
 | .nilS false p,k=>∃q n c,p= .slice q n c/\k (.b (!q.isNone))
 | .arr p q,k=>∃G H J Z:UInt32,p= .agg #[.int .u32 G.toNat,.int .u32 H.toNat]/\q= .agg #[.int .u32 J.toNat,.int .u32 Z.toNat]/\k (.b (!(decide (G=J)&&decide (H=Z))))
 | .sl sz val lo none,k=>∃(a:Option Addr) (len cap:Nat),val= .slice a len cap/\0<=lo/\lo<=(len:Int)/\(len:Int)<=cap/\
   k (.v (.slice (if cap=lo.toNat then a else a.map (·.add (lo.toNat* sz))) ((len:Int).toNat - lo.toNat) (cap - lo.toNat)))
 | .sl sz val lo (some hi),k=>∃(a:Option Addr) (len cap:Nat),val= .slice a len cap/\0<=lo/\lo<=hi/\hi<=cap/\
   k (.v (.slice (if cap=lo.toNat then a else a.map (·.add (lo.toNat* sz))) (hi.toNat - lo.toNat) (cap - lo.toNat)))
 | .ptr val,k=>∃b off,val= .pointer (some ⟨b,off,none⟩)/\k (.a b off)
 | .ix sz val n,k=>∃b off len cap,val= .slice (some ⟨b,off,none⟩) len cap/\0<=n/\n< len/\k (.a b (off+n.toNat* sz))
 | .len val,k=>∃a n cap,val= .slice a n cap/\k (.i n)
 | .raw p,k=>∃q,p q/\k (.b q)
 | .bad,_=>False
@[reducible] def slR (T:ef) (el:Nat) (val:Value) (lo:Int) (hi:Option Int):PR:=match T.I el with
 | none=> .bad
 | some (_,sz,_)=> .sl sz val lo hi
@[reducible] def pureR (T:ef) (e:Env):Op->PR
 | .move x=>match ev e x with | some y=> .ret y | none=> .bad
 | .assign x=>match ev e x with | some y=> .ret y | none=> .bad
 | .pick c a b=>match ev e c with
  | some .tt=>(match ev e a with | some y=> .ret y | none=> .bad)
  | some .ff=>(match ev e b with | some y=> .ret y | none=> .bad)
  | _=> .bad
 | .binOp op t x y _=>match ev e x,ev e y with
  | some a,some b=>(match binT op a b with
   | some z=> .ret z
   | none=>match binP op a b with
    | some (p,z)=> .req p z
    | none=>match op,T.U t,Nh a,Nh b with
     | .eql,some .bool,some p,some q=> .ret (.b (p==q))
     | .neq,some .bool,some p,some q=> .ret (.b (!(p==q)))
     | .eql,some (.pointer _),none,none=>(match a,b with
      | .v p,.v (.pointer none)=> .nilP true p
      | .a _ _,.v (.pointer none)=> .ret .ff
      | _,_=> .bad)
     | .neq,some (.pointer _),none,none=>(match a,b with
      | .v p,.v (.pointer none)=> .nilP false p
      | .a _ _,.v (.pointer none)=> .ret .tt
      | _,_=> .bad)
     | .eql,some (.slice _),none,none=>(match a,b with
      | .v p,.v (.slice none n m)=>(match Nat.beq n 0,Nat.beq m 0 with
       | true,true=> .nilS true p
       | _,_=> .bad)
      | _,_=> .bad)
     | .neq,some (.slice _),none,none=>(match a,b with
      | .v p,.v (.slice none n m)=>(match Nat.beq n 0,Nat.beq m 0 with
       | true,true=> .nilS false p
       | _,_=> .bad)
      | _,_=> .bad)
     | .neq,some (.array n el),none,none=>(match Nat.beq n 2,T.U el,is1 (T.I el),a,b with
      | true,some (.int .u32),some (_,_),.v p,.v q=> .arr p q
      | _,_,_,_,_=> .bad)
     | .eql,some (.struct _),none,none=>(match a,b with
      | .ag xs,.ag G=> .raw (MY T t (SV.ag xs).val (SV.ag G).val)
      | _,_=> .bad)
     | _,_,_,_=> .bad)
  | _,_=> .bad
 | .unOp op _ x=>match op,ev e x with
  | .not,some y=>(match LQ y with | some z=> .ret z | none=> .bad)
  | .neg,some (.i n)=> .req (bG (0 - n)) (.i (0 - n))
  | _,_=> .bad
 | .convert src dst x=>match T.U src,T.U dst,ev e x with
  | some (.int _),some (.int .i64),some (.c x)=> .ret (.i x.toNat)
  | some (.int _),some (.int .u8),some (.i n)=> .ret (.c (UInt8.ofNat (n % 256).toNat))
  | some (.int _),some (.int .i64),some (.i n)=> .req (bG n) (.i n)
  | some (.int _),some (.int .i32),some (.c x)=> .ret (.r x.toNat)
  | some (.int _),some (.int .i32),some (.i n)=> .req (0<=n/\n< 2147483648) (.r n)
  | some (.int _),some .string,some (.r n)=> .req (0<=n/\n< 128) (.s [UInt8.ofNat n.toNat])
  | _,_,_=> .bad
 | .index t x ix=>match T.U t,ev e x,ev e ix with
  | some .string,some (.s l),some (.i n)=> .req (0<=n/\n< l.length) (.c (bt l n.toNat))
  | _,_,_=> .bad
 | .slice t x lo hi none=>match T.U t,ev e x,KE (ev e) lo,KE (ev e) hi with
  | some .string,some (.s l),none,none=> .ret (.s l)
  | some .string,some (.s l),some (some (.i a)),none=> .req (0<=a/\a<=l.length) (.s (l.drop a.toNat))
  | some .string,some (.s l),none,some (some (.i b))=> .req (0<=b/\b<=l.length) (.s (l.take b.toNat))
  | some .string,some (.s l),some (some (.i a)),some (some (.i b))=> .req (0<=a/\a<=b/\b<=l.length) (.s ((l.take b.toNat).drop a.toNat))
  | some (.slice el),some (.v val),none,none=>slR T el val 0 none
  | some (.slice el),some (.v val),some (some (.i a)),none=>slR T el val a none
  | some (.slice el),some (.v val),none,some (some (.i b))=>slR T el val 0 (some b)
  | some (.slice el),some (.v val),some (some (.i a)),some (some (.i b))=>slR T el val a (some b)
  | _,_,_,_=> .bad
 | .extract x i=>match ev e x with
  | some (.tup xs)=>(match ni xs i with | some y=> .ret y | none=> .bad)
  | _=> .bad
 | .nilCheck x=>match ev e x with
  | some (.a b off)=> .ret (.a b off)
  | some (.v val)=> .ptr val
  | _=> .bad
 | .fieldAddr s x f=>match T.U s,ev e x with
  | some (.struct fs),some (.a b off)=>(match ni (nN fs) f with
   | some fd=>(match T.I (Nn fd)with
    | some (_,sz,_)=>(match Nat.beq sz 0 with
     | true=> .bad
     | false=> .ret (.a b (off+(Mo fd))))
    | none=> .bad)
   | none=> .bad)
  | _,_=> .bad
 | .indexAddr t x ix=>match T.U t,ev e x,evI e ix with
  | some (.slice el),some (.v val),some n=>(match T.I el with
   | some (_,sz,_)=> .ix sz val n
   | none=> .bad)
  | some (.array len el),some (.a b off),some n=>(match T.I el with
   | some (_,sz,_)=> .req (0<=n/\n< len) (.a b (off+n.toNat* sz))
   | none=> .bad)
  | _,_,_=> .bad
 | .build t parts=>match T.U t,T.I t,evp e (nN parts)with
  | some (.struct fs),some (.agg zs,_,_),some ps=>(match IW (λf=>MC (T.I (Nn f))) (nN fs),buildAg T fs (mapR svOf (nN zs)) ps with
   | true,some xs=> .ok ps (.ag xs)
   | _,_=> .bad)
  | some (.array _ el),some (.agg zs,_,_),some []=>(match MC (T.I el)with
   | true=> .ret (.agl (nN zs))
   | false=> .bad)
  | some (.array _ el),some (.agg zs,_,_),some (p::ps)=>(match is1 (T.I el)with
   | some (_,_)=>(match buildAr (mapR svOf (nN zs)) (p::ps)with
    | some xs=> .ok (p::ps) (.ag xs)
    | none=> .bad)
   | _=> .bad)
  | _,_,_=> .bad
 | .makeFunc fn first captured=>match fn,evs e (nN first),evs e (nN captured)with
  | .func f,some [],some G=> .ret (.v (.func (.func f) #[] (SV.aS G).toArray))
  | _,_,_=> .bad
 | .call c=>match NU c with
  | .builtin .len=>(match ni (nN (NT c)) 0,Oa e (ni (nN (LI c)) 0)with
   | some t,some (.s l)=>(match T.U t with | some .string=> .ret (.i l.length) | _=> .bad)
   | some t,some (.v val)=>(match T.U t with | some (.slice _)=> .len val | _=> .bad)
   | _,_=> .bad)
  | .builtin .max=>(match evs e (nN (LI c))with
   | some [.i p,.i q]=> .ret (.i (if q> p then q else p))
   | some [.s p,.s q]=> .ret (.s (if(!Op.bytesLess p q)then p else q))
   | _=> .bad)
  | .builtin .min=>(match evs e (nN (LI c))with
   | some [.i p,.i q]=> .ret (.i (if q< p then q else p))
   | some [.s p,.s q]=> .ret (.s (if(Op.bytesLess p q||decide (p=q))then p else q))
   | _=> .bad)
  | _=> .bad
 | _=> .bad
def yZ (T:ef)(e:Env)(o:Oper)(k:SV->Prop):Prop:=runPR (pureR T e (KW o)) k
def forceL {α:Type}:List α->(List α->Prop)->Prop
 | [],k=>k []
 | x::l,k=>forceL l λl'=>k (x::l')
def ib {α:Type}:∀(l:List α) (k:List α->Prop),forceL l k=k l
 | [],_=>rfl
 | x::l,k=>by rw [forceL,ib l]
inductive LR where
 | one (k:Kd) | agg (ks:List Kd) | list (n:Nat) | bad
@[reducible] def loadR (T:ef) (t:Nat):LR:=match single (T.U t)with
 | true=> .one (AZ (T.U t))
 | false=>match yz (T.U t),cellK T t,T.I t with
   | true,some ks,some (_,n,_)=>(match Nat.beq (Cs ks) n with
    | true=> .agg ks
    | false=> .bad)
   | true,none,some (_,n,_)=> .list n
   | _,_,_=> .bad
def runLoad:LR->World->Nat->Nat->(SV->Sb)->Prop
 | .one kd,w,b,off,k=>NJ kd λy=>w.cell? ⟨b,off,none⟩=some y.val/\k y w
 | .agg ks,w,b,off,k=>ExL ks λxs=>CellsAt w b off xs/\k (.ag xs) w
 | .list n,w,b,off,k=>∃cs:List Value,cs.length=n/\(∀j,j< n->w.cell? ⟨b,off+j,none⟩=cs[j]?)/\k (.agl cs) w
 | .bad,_,_,_,_=>False
def uZ (T:ef)(t b off:Nat)(w:World)(k:SV->Sb):Prop:=runLoad (loadR T t) w b off k
inductive SR where
 | one (z:SV) | many (n:Nat) (cs:List Value) | val (n:Nat) (x:Value) | bad
@[reducible] def storeR (T:ef) (t:Nat) (z:SV):SR:=match single (T.U t)with
 | true=>(match is1 (T.I t)with
    | some (_,_)=> .one z
    | _=> .bad)
 | false=>(match T.I t,z with
    | some (_,n,_),.ag xs=> .many n (SV.aS xs)
    | some (_,n,_),.agl cs=> .many n cs
    | some (_,n,_),.v x=> .val n x
    | _,_=> .bad)
def runStore:SR->World->Nat->Nat->(SV->Sb)->Prop
 | .one z,w,b,off,k=>oneOk z (((∃u,w.cell? ⟨b,off,none⟩=some u)/\w.frozen? ⟨b,off,none⟩=false)/\∀w',w'=w.setCell ⟨b,off,none⟩ z.val->k .un w')
 | .many n cs,w,b,off,k=>yW w b off n cs k
 | .val n x,w,b,off,k=>∃cs:List Value,x= .agg cs.toArray/\yW w b off n cs k
 | .bad,_,_,_,_=>False
def rN (T:ef)(t b off:Nat)(z:SV)(w:World)(k:SV->Sb):Prop:=runStore (storeR T t z) w b off k
noncomputable def eM (es:List MapEntry)(q:Value):Option Value:=open Classical in (es.find? λx=>decide (x.key=q)).map (·.val)
def lO (d:TypeDesc)(q:Value):Prop:=match d with
 | .array n _=>n=2/\∃x y,q= .agg #[.string x,.string y]
 | d=>MapKept.IsKey d q
def IsMap (w:World)(r:Nat)(d:TypeDesc)(m:Value->Option Value):Prop:=
 ∃es clock,w.heap[r]?=some (.map es clock)/\MapKept.Stamped es clock/\(∀x∈es.toList,lO d x.key)/\∀q,m q=eM es.toList q
noncomputable def gF (m:Value->Option Value)(q v:Value):Value->Option Value:=open Classical in λx=>if x=q then some v else m x
structure dO (w w':World)(r:Nat):Prop where
 os:w'.os=w.os
 tape:w'.tape=w.tape
 output:w'.output=w.output
 size:w'.heap.size=w.heap.size
 block:∀b,b≠r->w'.heap[b]?=w.heap[b]?
@[reducible] def keyOk (d:TypeDesc) (y:SV):Bool:=match d,y with
 | .int .i64,.i _=>true
 | .int .u8,.c _=>true
 | .string,.s _=>true
 | _,_=>false
@[reducible] def keyOkT (T:ef) (d:TypeDesc) (y:SV):Bool:=match keyOk d y,d,y with
 | true,_,_=>true
 | false,.array n e,.ag [.s _,.s _]=>(match Nat.beq n 2,T.U e,is1 (T.I e)with
  | true,some .string,some (_,_)=>true
  | _,_,_=>false)
 | _,_,_=>false
def ER (w:World)(r:Nat)(s:Int)(q:Value):Prop:=
 ∃(es:Array MapEntry) (clock j:Nat) (x:MapEntry),w.heap[r]?=some (.map es clock)/\es[j]?=some x/\x.key=q/\s=x.born
@[reducible] def Hb (d:Option TypeDesc):Bool:=match d with
 | some (.struct _)=>true
 | some (.array _ _)=>true
 | _=>false
@[reducible] def svV:SV->Option Value
 | .v x=>some x
 | _=>none
def HF {y:SV}{x:Value}(h:svV y=some x):y= .v x:=by
 unfold svV at h;split at h<;>cases h
 rfl
@[reducible] def KV (ok:Bool) (y:SV) (g:Bool):SV:=match ok with
 | true=> .tup [y,.b g]
 | false=>y
inductive OR where
 | pure (p:PR)
 | toB (el:Nat) (l:aD) | ofB (v:Value)
 | load (r:LR) (b off:Nat) | loadV (r:LR) (v:Value)
 | store (r:SR) (b off:Nat) | storeV (r:SR) (v:Value)
 | alloc (cs:List Value) (el:Nat) | mmap
 | mksl (el:Nat) (z:Value) (n m:Int)
 | mapup (d:TypeDesc) (v:Value) (q z:SV) | mapent (d:TypeDesc) (v:Value) (q:SV) | entst (v:Value) (s:Int) (y:SV)
 | lookup (d:TypeDesc) (kd:Kd) (z v:Value) (q:SV) (ok:Bool)
 | boxA (el:Nat) (v:Value) | box1 (el:Nat) (v:Value) | boxC (el:Nat) (y:SV)
 | bsl (el len:Nat) (ps:List (Nat×SV)) (cs:List Value)
 | app (el sz by_:Nat) (s x:Value) | clr (z s:Value)
 | dyn (v:Value) (xs:List SV) (L:List Kd) | call (f:Nat) (xs:List SV) (L:List Kd)
 | bad
def runOR (T:ef):OR->World->(SV->Sb)->Prop
 | .pure p,w,k=>runPR p λy=>k y w
 | .toB el l,w,k=>∀(b cap:Nat) (w':World),b=w.heap.size->Ae w' el b l->w.grownBy w' none->k (.v (.slice (some ⟨b,0,none⟩) l.length cap)) w'
 | .ofB val,w,k=>∃(b off n c:Nat) (l:aD),val= .slice (some ⟨b,off,none⟩) n c/\l.length=n/\(∀j x,l[j]?=some x->w.cell? ⟨b,off+j,none⟩=some (.int .u8 x.toNat))/\k (.s l) w
 | .load r b off,w,k=>runLoad r w b off k
 | .loadV r val,w,k=>∃b off,val= .pointer (some ⟨b,off,none⟩)/\runLoad r w b off k
 | .store r b off,w,k=>runStore r w b off k
 | .storeV r val,w,k=>∃b off,val= .pointer (some ⟨b,off,none⟩)/\runStore r w b off k
 | .alloc cs el,w,k=>forceL cs λcs=>∀(b:Nat) (w':World),b=w.heap.size->w'=w.alloc (.cells cs.toArray el)->k (.a b 0) w'
 | .mmap,w,k=>∀(b:Nat) (w':World),b=w.heap.size->w'=w.alloc (.map #[] 0)->k (.v (.map (some b))) w'
 | .mksl el z n m,w,k=>(0<=n/\n=m/\n<=1099511627776)/\∀(b:Nat) (w':World),b=w.heap.size->w'=w.alloc (.cells (List.replicate n.toNat z).toArray el)->k (.v (.slice (some ⟨b,0,none⟩) n.toNat n.toNat)) w'
 | .mapup d val q z,w,k=>∃(r:Nat) (mm:Value->Option Value),val= .map (some r)/\IsMap w r d mm/\∀w',IsMap w' r d (gF mm q.val z.val)->dO w w' r->k .un w'
 | .mapent d val q,w,k=>∃(r:Nat) (mm:Value->Option Value),val= .map (some r)/\IsMap w r d mm/\∀(v0:Value) (s:Int) (w':World),IsMap w' r d (gF mm q.val v0)->dO w w' r->ER w' r s q.val->k (.tup [.v v0,.i s]) w'
 | .entst val s y,w,k=>∃(r:Nat) (d:TypeDesc) (mm:Value->Option Value) (q:Value),val= .map (some r)/\IsMap w r d mm/\ER w r s q/\∀w',IsMap w' r d (gF mm q y.val)->dO w w' r->k .un w'
 | .lookup d kd z val q ok,w,k=>∃(r:Nat) (mm:Value->Option Value),val= .map (some r)/\IsMap w r d mm/\NJ kd λy=>∃g:Bool,((g=true/\mm q.val=some y.val)\/(g=false/\mm q.val=none/\y.val=z))/\k (KV ok y g) w
 | .boxA el val,w,k=>∃cs:List Value,val= .agg cs.toArray/\∀(b:Nat) (w':World),b=w.heap.size->w'=w.alloc (.cells cs.toArray el)->k (.a b 0) w'
 | .box1 el val,w,k=>oneV val=true/\∀(b:Nat) (w':World),b=w.heap.size->w'=w.alloc (.cells #[val] el)->k (.a b 0) w'
 | .boxC el y,w,k=>okC y (forceL (cellsOf y) λcs=>∀(b:Nat) (w':World),b=w.heap.size->w'=w.alloc (.cells cs.toArray el)->k (.a b 0) w')
 | .bsl el len ps cs,w,k=>okAllC ps (forceL cs λcs=>∀(b:Nat) (w':World),b=w.heap.size->w'=w.alloc (.cells cs.toArray el)->k (.v (.slice (some ⟨b,0,none⟩) len len)) w')
 | .app el sz by_ s x,w,k=>ux el sz by_ s x w k
 | .clr z s,w,k=>∃(a:Option Addr) (n cap:Nat),s= .slice a n cap/\((n=0/\k (.tup []) w)\/∃b off,a=some ⟨b,off,none⟩/\(∀j,j< n->(∃u,w.cell? ⟨b,off+j,none⟩=some u)/\w.frozen? ⟨b,off+j,none⟩=false)/\∀w',w'=World.setCells w b off (List.replicate n z)->k (.tup []) w')
 | .dyn val xs L,w,k=>forceL (SV.aS xs) λvs=>forceL L λL=>∃(f:Nat) (ca:List Value),val= .func (.func f) #[] ca.toArray/\T.fn f=true/\Calls T.P f (vs++ca).toArray w (aw L (Cur.mk L λG w'=>k (lW G) w'))
 | .call f xs L,w,k=>forceL (SV.aS xs) λvs=>forceL L λL=>Calls T.P f vs.toArray w (aw L (Cur.mk L λG w'=>k (lW G) w'))
 | .bad,_,_=>False
@[reducible] def mapupR (T:ef) (e:Env) (t:Nat) (m x y:Operand):OR:=match T.U t,ev e m,ev e x,ev e y with
  | some (.map kt _),some (.v val),some q,some z=>(match T.U kt with
   | some d=>(match keyOkT T d q with
    | true=> .mapup d val q z
    | false=> .bad)
   | none=> .bad)
  | _,_,_,_=> .bad
@[reducible] def opR (T:ef) (e:Env) (o:Oper):OR:=
 match (KW o)with
 | .convert src dst x=>match T.U src,T.U dst,ev e x with
  | some .string,some (.slice el),some (.s l)=>(match T.U el with
   | some (.int .u8)=> .toB el l
   | _=> .bad)
  | some (.slice el),some .string,some (.v val)=>(match T.U el with
   | some (.int .u8)=> .ofB val
   | _=> .bad)
  | _,_,_=> .pure (pureR T e (KW o))
 | .load t x=>match ev e x with
  | some (.a b off)=> .load (loadR T t) b off
  | some (.v val)=> .loadV (loadR T t) val
  | _=> .bad
 | .store t x y=>match ev e x,ev e y with
  | some (.a b off),some z=> .store (storeR T t z) b off
  | some (.v val),some z=> .storeV (storeR T t z) val
  | _,_=> .bad
 | .alloc el=>match T.I el with
  | some (z,_,_)=> .alloc (ud z) el
  | none=> .bad
 | .makeMap _ none=> .mmap
 | .makeSlice t l c=>match T.U t,ev e l,ev e c with
  | some (.slice el),some (.i n),some (.i m)=>(match is1 (T.I el)with
   | some (z,by_)=>(match oneV z,Nat.ble by_ 256 with
    | true,true=> .mksl el z n m
    | _,_=> .bad)
   | _=> .bad)
  | _,_,_=> .bad
 | .mapUpdate t m x y=>mapupR T e t m x y
 | .insert t m x y=>mapupR T e t m x y
 | .mapEntry t m x=>match T.U t,ev e m,ev e x with
  | some (.map kt G),some (.v val),some q=>(match T.U kt,T.I G with
   | some d,some _=>(match keyOkT T d q with
    | true=> .mapent d val q
    | false=> .bad)
   | _,_=> .bad)
  | _,_,_=> .bad
 | .entryStore _ m s y=>match ev e m,ev e s,ev e y with
  | some (.v val),some (.i s),some y=> .entst val s y
  | _,_,_=> .bad
 | .lookup t m x ok=>match T.U t,ev e m,ev e x with
  | some (.map kt G),some (.v val),some q=>(match T.U kt,T.I G with
   | some d,some (z,_,_)=>(match keyOkT T d q with
    | true=> .lookup d (AZ (T.U G)) z val q ok
    | false=> .bad)
   | _,_=> .bad)
  | _,_,_=> .bad
 | .box el x=>match ev e x with
  | some y=>(match svV y,Hb (T.U el)with
   | some val,true=> .boxA el val
   | some val,false=> .box1 el val
   | none,_=> .boxC el y)
  | none=> .bad
 | .buildSlice t len parts=>match T.U t,evp e (nN parts)with
  | some (.slice el),some ps=>(match T.I el with
   | some (z,sz,_)=>(match Nat.beq (Cs (ud z)) sz,Nat.ble 1 sz,Nat.ble (Nat.mul len sz) 16777216,buildRow sz (Jz len (ud z)) ps with
     | true,true,true,some cs=> .bsl el len ps cs
     | _,_,_,_=> .bad)
   | none=> .bad)
  | _,_=> .bad
 | .call c=>match NU c with
  | .builtin .append=>(match (nN (NT c)),evs e (nN (LI c))with
   | [t,H],some [.v s,.v x]=>(match Nat.beq t H,T.U t with
     | true,some (.slice el)=>(match T.I el with
      | some (z,sz,by_)=>(match Nat.beq (Cs (ud z)) sz,Nat.ble 1 sz with
       | true,true=> .app el sz by_ s x
       | _,_=> .bad)
      | none=> .bad)
     | _,_=> .bad)
   | _,_=> .bad)
  | .builtin .clear=>(match (nN (NT c)),evs e (nN (LI c))with
   | [t],some [.v s]=>(match T.U t with
    | some (.slice el)=>(match is1 (T.I el)with
     | some (z,_)=>(match oneV z with
      | true=> .clr z s
      | false=> .bad)
     | _=> .bad)
    | _=> .bad)
   | _,_=> .bad)
  | .value (.tmp t)=>(match look e t,evs e (nN (LI c))with
   | some (.v val),some xs=> .dyn val xs (GH T (N4 o))
   | _,_=> .bad)
  | .value (.func f)=>(match T.F f,evs e (nN (LI c))with
    | true,some xs=> .call f xs (GH T (N4 o))
    | _,_=> .bad)
  | _=> .pure (pureR T e (KW o))
 | _=> .pure (pureR T e (KW o))
def A1 (T:ef)(e:Env)(o:Oper)(w:World)(k:SV->Sb):Prop:=runOR T (opR T e o) w k
attribute [go_sem] Mo lW CellsAt yW Option.getD_some Option.getD_none KV
section
variable {T:ef} {N:Nat} {e:Env} {o:Oper} {a:Act} {w:World} {k:SV->Sb}
def cW (P:Program)(o:Oper)(a:Act)(w:World)(k:SV->Sb):Prop:=
 ∀(next:Act->Sb) (Q:Exit->Act->Sb),(∀y w',k y w'->next (a.put o.dst y.val) w')->o.wp P a w next Q
def cW.value {P:Program}{v:Value}{y:SV}{w':World}(h:(execOp a.eval o).run P w= .ok (.value v) w')(G:v=y.val)(H:k y w'):cW P o a w k:=by
 intro next Q J;unfold Oper.wp;rw [h,G];exact J _ _ H
def cW.skip {P:Program}{w':World}(h:(execOp a.eval o).run P w= .ok .skip w')(G:k .un w'):cW P o a w k:=by
 intro next Q H;unfold Oper.wp;rw [h];exact H _ _ G
def iA (h:aF N e a):∀{l:List Operand} {xs:List SV},evs e l=some xs->l.map a.eval=SV.aS xs
 | [],xs,G=>by cases G;rfl
 | x::l,xs,G=>by
  unfold evs at G;split at G
  ·rename_i y Z H J;cases G;simp [SV.aS,aH h H,iA h J]
  ·cases G
def kz:∀{xs G:List SV},SV.aS G=SV.aS xs->valOf xs=(lW G).val
 | [],[],_=>rfl
 | [],_::_,h=>by simp [SV.aS]at h
 | _::_,[],h=>by simp [SV.aS]at h
 | [x],[y],h=>by simp [SV.aS]at h;simp [valOf,lW,h]
 | [x],_::_::_,h=>by simp [SV.aS]at h
 | _::_::_,[y],h=>by simp [SV.aS]at h
 | x::H::xs,y::J::G,h=>by simp only [valOf,lW,SV.val];rw [h]
def E9 {f:Nat}{c:Call}{xs:List SV}{L:List Kd}(Z:aF N e a)(ho:o.op= .call c)(hc:c.callee= .value (.func f))(hf:T.fn f=true)(hx:evs e c.args.toList=some xs)
  (h:Calls T.P f (SV.aS xs).toArray w (aw L (Cur.mk L λys w'=>k (lW ys) w'))):cW T.P o a w k:=by
 intro next Q hn;obtain⟨g,hg,hb,α⟩:=T.fn_ok f hf;have G:c.args.map a.eval=(SV.aS xs).toArray:=by
  apply PY.1;rw [PU,iA Z hx]
 have H:(execOp a.eval o).run T.P w= .ok (.enter f (SV.aS xs).toArray) w:=by
  simp only [execOp,ho,resolve,hc,Act.eval,G,Deferred.ofValue,OT,OV,OE,invoke,callFunc,run_program,hg,hb,α];simp
 unfold Oper.wp;rw [H,Oper.upon_enter];refine Calls.mono h λe' w' hr=>?_
 obtain⟨ys,rfl,J,_⟩:=ly.get _ _ _ _ _ hr;obtain⟨zs,hz,hk⟩:=Cur.DB _ _ _ _ J;have :=hn _ _ hk;simpa [kz hz]using this
end
section
variable {T:ef} {N:Nat} {e:Env} {o:Oper} {a:Act} {w:World} {k:SV->Sb}
def bC {T:ef}{t:Nat}{d:TypeDesc}(h:T.und t=some d)(w:World):(underlying t).run T.P w= .ok d w:=QZ (T.und_ok _ _ h) w
def bH {T:ef}{t:Nat}{z:Value}{s b:Nat}(h:T.inf t=some (z,s,b))(w:World):
  (sizeOf t).run T.P w= .ok s w/\(zeroValue t).run T.P w= .ok z w:=by
 obtain⟨i,hi,G,H,hb⟩:=T.inf_ok _ _ _ _ h;constructor
 ·simp [sizeOf,typeInfo,hi,H]
 ·simp [zeroValue,typeInfo,hi,G]
def pv {t:Nat}(h:single (T.und t)=true)(w:World):(isAgg t).run T.P w= .ok false w:=by
 cases hu:T.und t with
 | none=>rw [hu]at h;cases h
 | some d=>
  unfold isAgg;rw [OT,bC hu,OE];rw [hu]at h;cases d<;>first | (cases h;done) | simp
def cw (P:Program)(o:Oper)(a:Act)(k:SV->Prop):Prop:=∃y,k y/\∀w,(execOp a.eval o).run P w= .ok (.value y.val) w
def cw.mk {P:Program}{k:SV->Prop}(y:SV)(G:k y)(h:∀w,(execOp a.eval o).run P w= .ok (.value y.val) w):cw P o a k:=⟨y,G,h⟩
def xN {k:SV->Prop}{x:Operand}(H:aF N e a)(G:o.op= .move x\/o.op= .assign x){y:SV}(J:ev e x=some y)(h:k y):cw T.P o a k:=by
 refine cw.mk y h λw=>?_
 rw [<-aH H J];rcases G with G | G<;>simp [execOp,G]
def xt {k:SV->Prop}{c x y:Operand}{b:Bool}{z:SV}(G:aF N e a)(H:o.op= .pick c x y)(J:a.eval c= .bool b)
  (Z:ev e (if b then x else y)=some z) (h:k z):cw T.P o a k:=by
 refine cw.mk z h λw=>?_
 rw [<-aH G Z];simp only [execOp,H,J,asBool,OT,OV,OE];cases b<;>simp
def dR {k:SV->Prop}{op:BinOp}{t Z:Nat}{x y:Operand}{p q z:SV}(G:aF N e a)(ho:o.op= .binOp op t x y Z)(J:ev e x=some p)(hy:ev e y=some q)
  (H:∀b:Value,(match p.val,b with | .nilIface,.nilIface=>false | .agg _,.agg _=>false | _,_=>true)=true)
  (hr:∀w,(binOp op t p.val q.val).run T.P w= .ok z.val w) (h:k z):cw T.P o a k:=by
 refine cw.mk z h λw=>yU ho (eqGuard_plain ?_) ?_
 ·rw [aH G J];exact H _
 ·rw [aH G J,aH G hy];exact hr w
def C4 {op:BinOp}{p q z:SV}(h:binT op p q=some z):∀b:Value,(match p.val,b with | .nilIface,.nilIface=>false | .agg _,.agg _=>false | _,_=>true)=true:=by
 refine yk p ?_ ?_ ?_ ?_<;>rintro y rfl<;>(unfold binT at h;split at h<;>simp_all)
def Dt {op:BinOp}{p q z:SV}{P:Prop}(h:binP op p q=some (P,z)):∀b:Value,(match p.val,b with | .nilIface,.nilIface=>false | .agg _,.agg _=>false | _,_=>true)=true:=by
 refine yk p ?_ ?_ ?_ ?_<;>rintro y rfl<;>(unfold binP at h;split at h<;>simp_all)
def pf {x:SV}{b:Bool}(h:Nh x=some b):x.val= .bool b:=by
 cases x<;>simp [Nh]at h<;>subst h<;>rfl
def D3 {x:SV}{n:Int}(h:NH x=some n):∃kd,x.val= .int kd n:=by
 cases x<;>simp [NH]at h<;>subst h<;>exact⟨_,rfl⟩
def yc {x:SV}{b:Bool}(h:Nh x=some b):∀b:Value,(match x.val,b with | .nilIface,.nilIface=>false | .agg _,.agg _=>false | _,_=>true)=true:=by
 intro c;rw [pf h]
def uQ {t:Nat}(G:T.und t=some .bool)(p q:Bool):(binOp .eql t (.bool p) (.bool q)).run T.P w= .ok (.bool (p==q)) w/\(binOp .neq t (.bool p) (.bool q)).run T.P w= .ok (.bool (!(p==q))) w:=by
 have h:(Op.equal t (.bool p) (.bool q)).run T.P w= .ok (p==q) w:=by
  show(Op.equalIn Op.maxDepth t _ _).run T.P w=_;have:Op.maxDepth=(Op.maxDepth - 1)+1:=rfl;rw [this];simp only [Op.equalIn,OT,bC G,OE,OV]
 constructor<;>simp only [binOp,OT,h,OE,OV]
def Jx {x y:SV}(h:LQ x=some y):(Op.unary .not x.val).run T.P w= .ok y.val w:=by
 cases x<;>simp [LQ]at h<;>subst h<;>rfl
def Fq {n:Int}(G:0<=n)(h:n< 128):Utf8.encode n=ak [UInt8.ofNat n.toNat]:=by
 obtain⟨m,rfl⟩:=Int.eq_ofNat_of_zero_le G;have hm:m< 128:=by omega
 clear h G;revert m;decide+kernel
def J3 {t:Nat}{l:aD}{n:Int}(H:T.und t=some .string)(J:0<=n)(h1:n< l.length):(Instr.index t (.string (ak l)) (.int .i64 n)).run T.P w= .ok (.int .u8 (bt l n.toNat).toNat) w:=by
 have G:n.toNat< l.length:=by omega
 have Z:(ak l)[n.toNat]?=some (bt l n.toNat):=by
  rw [getElem?_pos (ak l) n.toNat (by rw [gm];exact G)]
  congr 1
  show l.toArray[n.toNat]'_=_;simp only [bt,List.getD,Ox G,Option.getD_some];rfl
 simp only [Instr.index,asIntOf,OT,OV,OE,bC H,O' J,Z]
def F5 {x:Int}{y:Nat}{code:BoundsCode}(G:0<=x)(H:x<=y):(Instr.sliceBound (.int .i64 x) y code).run T.P w= .ok x.toNat w:=by
 simp only [Instr.sliceBound,asIntOf,OT,OV,OE,O' (And.intro G H)]
def oR (x:Option Int):Option Value:=x.map (Value.int .i64)
def uO {isS:Bool}{len cap:Nat}{lo hi:Option Int}(G:0<=lo.getD 0)(J:lo.getD 0<=hi.getD len)(H:hi.getD len<=cap):
  (Instr.sliceBounds isS len cap (oR lo) (oR hi) none).run T.P w= .ok ((lo.getD 0).toNat,(hi.getD len).toNat,cap) w:=by
 have hb:∀(x:Int) (y:Nat) (c:BoundsCode),0<=x->x<=y->(Instr.sliceBound (.int .i64 x) y c).run T.P w= .ok x.toNat w:=λx y c a b=>F5 a b
 cases lo<;>cases hi<;>simp only [oR,RX,P8,Option.getD_none,Option.getD_some]at*
 ·simp [Instr.sliceBounds]
 ·simp [Instr.sliceBounds,hb _ _ _ (by omega) H]
 ·simp [Instr.sliceBounds,hb _ _ _ G J]
 ·rename_i x y;simp [Instr.sliceBounds,hb _ _ _ (by omega:0<=y) H,hb x y.toNat _ G (by omega)]
def Av {t:Nat}{l:aD}{lo hi:Option Int}(G:T.und t=some .string)(H:0<=lo.getD 0)(J:lo.getD 0<=hi.getD l.length)(Z:hi.getD l.length<=l.length):
  (Instr.sliceAt t (.string (ak l)) (oR lo) (oR hi) none).run T.P w= .ok (.string (ak ((l.take (hi.getD l.length).toNat).drop (lo.getD 0).toNat))) w:=by
 simp only [Instr.sliceAt,Instr.slice,OT,bC G,OE,Option.isSome_none,Qp,Rb,gm,uO H J Z,OV,A5]
def sE {t el sz len cap b:Nat}{z:Value}{G:Option Addr}{lo hi:Option Int}(J:T.und t=some (.slice el))(H:T.inf el=some (z,sz,b))(Z:0<=lo.getD 0)(h1:lo.getD 0<=hi.getD len)(h2:hi.getD len<=cap):
  (Instr.sliceAt t (.slice G len cap) (oR lo) (oR hi) none).run T.P w=
   .ok (.slice (if cap=(lo.getD 0).toNat then G else G.map (·.add ((lo.getD 0).toNat* sz))) ((hi.getD len).toNat - (lo.getD 0).toNat) (cap - (lo.getD 0).toNat)) w:=by
 simp only [Instr.sliceAt,Instr.slice,OT,bC J,OE,uO Z h1 h2,OV,(bH H w).1]
def add_plain (b off n:Nat):(⟨b,off,none⟩:Addr).add n=⟨b,off+n,none⟩:=by
 unfold Addr.add;split
 ·rename_i h;subst h;rfl
 ·rfl
def Gf {s b off f sz G:Nat}{fs:Array Field}{fd:Field}{z:Value}(H:T.und s=some (.struct fs))(J:fs[f]?=some fd)(hi:T.inf fd.type=some (z,sz,G))(Z:sz≠0):
  (Instr.fieldAt s (.pointer (some ⟨b,off,none⟩)) f).run T.P w= .ok (.pointer (some ⟨b,off+fd.offset,none⟩)) w:=by
 simp only [Instr.fieldAt,OT,bC H,OE,J,Instr.sureAddr,OV,fieldPlace,(bH hi w).1,OP Z,add_plain]
def FR {t el sz G b off len cap:Nat}{z:Value}{kd:IntKind}{n:Int}(H:T.und t=some (.slice el))(hi:T.inf el=some (z,sz,G))(J:0<=n)(Z:n< len):
  (Instr.indexAt t (.slice (some ⟨b,off,none⟩) len cap) (.int kd n)).run T.P w= .ok (.pointer (some ⟨b,off+n.toNat* sz,none⟩)) w:=by
 simp only [Instr.indexAt,asIntOf,OT,OV,OE,bC H,O' (And.intro J Z),(bH hi w).1,add_plain]
def Fe {t el sz G b off len:Nat}{z:Value}{kd:IntKind}{n:Int}(H:T.und t=some (.array len el))(hi:T.inf el=some (z,sz,G))(J:0<=n)(Z:n< len):
  (Instr.indexAt t (.pointer (some ⟨b,off,none⟩)) (.int kd n)).run T.P w= .ok (.pointer (some ⟨b,off+n.toNat* sz,none⟩)) w:=by
 simp only [Instr.indexAt,asIntOf,OT,OV,OE,bC H,Instr.sureAddr,O' (And.intro J Z),(bH hi w).1,add_plain]
def qX {t b off:Nat}{v:Value}(G:single (T.und t)=true)(H:w.cell? ⟨b,off,none⟩=some v):
  (Instr.loadAt t (.pointer (some ⟨b,off,none⟩))).run T.P w= .ok v w:=by
 simp only [Instr.loadAt,Instr.sureAddr,OT,OV,OE,loadVar,pv G];simp [load,Sem.run,H]
def rV {b off:Nat}:∀(n i:Nat) (cs:List Value) (acc:Array Value),cs.length=i+n->(∀j,j< i+n->w.cell? ⟨b,off+j,none⟩=cs[j]?)->acc.toList=cs.take i->
  (loadCellsFrom ⟨b,off,none⟩ i n acc).run T.P w= .ok cs.toArray w
 | 0,i,cs,acc,J,G,ha=>by
  simp only [loadCellsFrom,OV];rw [Rm (by omega)]at ha;rw [<-ha]
 | n+1,i,cs,acc,J,G,ha=>by
  have hi:i< cs.length:=by omega
  have H:=G i (by omega);rw [Ox hi]at H;have:(load ((⟨b,off,none⟩:Addr).add i)).run T.P w= .ok cs[i] w:=by
   rw [add_plain];simp [load,Sem.run,H]
  simp only [loadCellsFrom,OT,this,OE];exact rV n (i+1) cs _ (by omega) (λj Z=>G j (by omega)) (by rw [Rw,ha,OC hi])
def jg {t:Nat}(h:yz (T.und t)=true)(w:World):(isAgg t).run T.P w= .ok true w:=by
 cases hu:T.und t with
 | none=>rw [hu]at h;cases h
 | some d=>
  unfold isAgg;rw [OT,bC hu,OE];rw [hu]at h;cases d<;>first | (cases h;done) | simp
def ji {t b off n G:Nat}{z:Value}{cs:List Value}(H:(isAgg t).run T.P w= .ok true w)(hi:T.inf t=some (z,n,G))(Z:cs.length=n)
  (J:∀j,j< n->w.cell? ⟨b,off+j,none⟩=cs[j]?):(Instr.loadAt t (.pointer (some ⟨b,off,none⟩))).run T.P w= .ok (.agg cs.toArray) w:=by
 simp only [Instr.loadAt,Instr.sureAddr,OT,OV,OE,loadVar,H,(bH hi w).1,Qu,loadCells];rw [rV n 0 cs #[] (by omega) (λj hj=>J j (by omega)) (by simp)];rfl
def Cz {t b off Z:Nat}{z u v:Value}(hi:T.inf t=some (z,1,Z))(J:oneV v=true)(hc:w.cell? ⟨b,off,none⟩=some u)(hf:w.frozen? ⟨b,off,none⟩=false):
  (Instr.storeAt t (.pointer (some ⟨b,off,none⟩)) v).run T.P w= .ok () (w.setCell ⟨b,off,none⟩ v):=by
 have G:v.cells=#[v]:=by cases v<;>first | rfl | (cases J;done)
 have H:(store (⟨b,off,none⟩:Addr) v).run T.P w= .ok () (w.setCell ⟨b,off,none⟩ v):=by
  cases v<;>first | (cases J;done) | (simp [store,Sem.run,hc,hf])
 simp only [Instr.storeAt,Instr.sureAddr,OT,OV,OE,storeVar,(bH hi w).1,G];simp only [List.size_toArray,Ov,ON,ne_eq,Rv,Rb,storeCells,OT,add_plain,QR,H,OE,OV]
def Fv {el:Nat}{z:Value}{s b:Nat}(hi:T.inf el=some (z,s,b))(v:Value):
  (Instr.alloc el true (.tuple #[])).run T.P w= .ok (.pointer (some ⟨w.heap.size,0,none⟩)) (w.alloc (.cells z.cells el)):=by
 simp only [Instr.alloc,OT,(bH hi w).2,OE,newVar,newRow,newObj,Sem.run,OV,World.alloc]
def Ao {el:Nat}(v:Value):(Instr.box el v).run T.P w= .ok (.pointer (some ⟨w.heap.size,0,none⟩)) (w.alloc (.cells v.cells el)):=by
 simp only [Instr.box,OT,newVar,newRow,newObj,Sem.run,OE,OV,World.alloc]
def Hs {t ty:Nat}{l:aD}(G:T.und t=some .string):(Builtin.len_ #[t] ty #[.string (ak l)]).run T.P w= .ok (.int .i64 l.length) w:=by
 simp [Builtin.len_,bC G,goInt,gm]
def Hk {t ty el n cap:Nat}{G:Option Addr}(H:T.und t=some (.slice el)):(Builtin.len_ #[t] ty #[.slice G n cap]).run T.P w= .ok (.int .i64 n) w:=by
 simp [Builtin.len_,bC H,goInt]
end
section
variable {T:ef} {N:Nat} {e:Env} {o:Oper} {a:Act} {w:World} {k:SV->Sb}
def okC.get {z:SV}{p:Prop}(h:okC z p):z.val.cells=(cellsOf z).toArray/\p:=by
 cases z with
 | v x=>obtain⟨G,H⟩:=h;refine⟨?_,H⟩;cases x<;>first | rfl | (cases G;done)
 | tup xs=>exact h.elim
 | un=>exact h.elim
 | _=>exact⟨rfl,h⟩
def okAllC.get:∀{ps:List (Nat×SV)} {p:Prop},okAllC ps p->(∀x,x∈ps->x.2.val.cells=(cellsOf x.2).toArray)/\p
 | [],p,h=>⟨λx G=>(by cases G),h⟩
 | q::ps,p,h=>by
  obtain⟨H,J⟩:=okC.get h;obtain⟨Z,h4⟩:=okAllC.get J;refine⟨λx G=>?_,h4⟩;cases G with
  | head=>exact H
  | tail _ G=>exact Z x G
def AH (z:Value):(svOf z).val=z:=by
 unfold svOf;split
 ·rfl
 ·split
  ·rename_i G;exact(PA (Value.int .u8) (H' G)).symm
  ·rfl
 ·split
  ·rename_i G;exact(PA (Value.int .u32) (Ef G)).symm
  ·rfl
 ·rename_i s;show Value.string (ak s.data.toList)=_;rw [<-Lk]
 ·rfl
 ·rfl
 ·rfl
def CellsAt.get {b:Nat}:∀{off:Nat} {xs:List SV},CellsAt w b off xs->∀j,j< xs.length->w.cell? ⟨b,off+j,none⟩=(SV.aS xs)[j]?
 | off,[],h,j,G=>by simp at G
 | off,x::xs,h,0,G=>by simpa [SV.aS]using h.1
 | off,x::xs,h,j+1,G=>by
  have :=CellsAt.get h.2 j (by simpa using G);rw [show off+(j+1)=off+1+j by omega,this];simp [SV.aS]
def ic:∀(l:List SV),(SV.aS l).length=l.length
 | []=>rfl
 | _::l=>by simp [SV.aS,ic l]
def ExL.get:∀{L:List Kd} {K:List SV->Prop},ExL L K->∃xs,xs.length=L.length/\K xs
 | [],K,h=>⟨[],rfl,h⟩
 | k::L,K,⟨t,h⟩=>by
  obtain⟨xs,G,H⟩:=ExL.get h;exact⟨k.sv t::xs,by simp [G],H⟩
def sT {b off G:Nat}{v:Value}(h:off≠G):(w.setCell ⟨b,off,none⟩ v).cell? ⟨b,G,none⟩=w.cell? ⟨b,G,none⟩:=by
 unfold World.cell? World.setCell;simp only [Qh,Qu];cases J:w.heap[b]? with
 | none=>rfl
 | some H=>
  cases H<;>simp [Array.getElem?_setIfInBounds,h]
def ug {b off:Nat}{v:Value}(x:Addr):(w.setCell ⟨b,off,none⟩ v).frozen? x=w.frozen? x:=OS _ _ _ _
def oJ {b:Nat}:∀(cs:List Value) (off i:Nat) (w:World),cs.all oneV=true->(∀j,j< cs.length->(∃u,w.cell? ⟨b,off+i+j,none⟩=some u)/\w.frozen? ⟨b,off+i+j,none⟩=false)->
  (storeCells (⟨b,off,none⟩:Addr) cs i).run T.P w= .ok () (World.setCells w b (off+i) cs)
 | [],off,i,w,_,_=>rfl
 | v::cs,off,i,w,G,J=>by
  simp only [PQ,OA]at G;obtain⟨⟨u,hu⟩,Z⟩:=J 0 (by simp);simp only [QR]at hu Z;have H:(store (⟨b,off+i,none⟩:Addr) v).run T.P w= .ok () (w.setCell ⟨b,off+i,none⟩ v):=by
   have :=G.1;cases v<;>first | (cases this;done) | (simp [store,Sem.run,hu,Z])
  simp only [storeCells,OT,add_plain,H,OE,World.setCells];rw [oJ cs off (i+1) _ G.2 λj hj=>?_]
  ·rfl
  ·have :=J (j+1) (by simpa using hj);rw [show off+i+(j+1)=off+(i+1)+j by omega]at this;rw [sT (by omega),ug];exact this
def Cj {t b off n H:Nat}{z:Value}{cs:List Value}(hi:T.inf t=some (z,n,H))(G:cs.length=n)(J:cs.all oneV=true)
  (Z:∀j,j< n->(∃u,w.cell? ⟨b,off+j,none⟩=some u)/\w.frozen? ⟨b,off+j,none⟩=false):
  (Instr.storeAt t (.pointer (some ⟨b,off,none⟩)) (.agg cs.toArray)).run T.P w= .ok () (World.setCells w b off cs):=by
 have h1:(Value.agg cs.toArray).cells=cs.toArray:=rfl;simp only [Instr.storeAt,Instr.sureAddr,OT,OV,OE,storeVar,(bH hi w).1,h1];rw [OP (by simp [G])];exact oJ cs off 0 w J (by simpa [G]using Z)
def vj {x:SV}:∀(l:List SV) (j:Nat),SV.aS (l.set j x)=(SV.aS l).set j x.val
 | [],_=>rfl
 | y::l,0=>rfl
 | y::l,j+1=>by simp [SV.aS,vj l j]
def EW {place:Nat->Option (Nat×Nat)}{fs:Array Field}(hp:∀(i:Nat) (fd:Field) sz z b,fs[i]?=some fd->T.inf fd.type=some (z,sz,b)->place i=some (fd.offset,sz)):
  ∀(ps:List (Nat×SV)) (zs xs:List SV),(∀x,x∈ps->x.2.val.cells=(cellsOf x.2).toArray)->buildAg T fs zs ps=some xs->
   Instr.fill place (SV.aS zs).toArray (ps.map λp=>(p.1,p.2.val))=some (SV.aS xs).toArray
 | [],zs,xs,_,h=>by cases h;rfl
 | (i,x)::r,zs,xs,H,h=>by
  unfold buildAg at h;split at h
  ·rename_i fd G;split at h
   ·rename_i z b hi hc;split at h
    ·rename_i γ J;rw [rz,fc]at G;obtain⟨Z,rfl⟩:=zQ J;have J:fd.offset< zs.length:=Z;have G:fs[i]?=some fd:=G;have hi:T.inf fd.type=some (z,1,b):=oh hi;have ih:=EW hp r _ xs (λy hy=>H y (OJ _ hy)) h;have β:x.val.cells=#[x.val]:=by
      rw [H (i,x) (Pb)];cases x<;>first | rfl | (cases hc;done)
     simp only [O3,Instr.fill,hp i fd 1 z b G hi,β];rw [OP (by simp [ic];omega)];have α:(#[x.val].zipIdx.foldl (λcs (c,j)=>cs.setIfInBounds (fd.offset+j) c) (SV.aS zs).toArray)=(SV.aS (zs.set fd.offset x)).toArray:=by
      rw [vj];simp
     rw [α];exact ih
    ·cases h
   ·cases h
  ·cases h
def va (G:aF N e a):∀{l:List (Nat×Operand)} {ps:List (Nat×SV)},evp e l=some ps->l.map (λp=>(p.1,a.eval p.2))=ps.map (λp=>(p.1,p.2.val))
 | [],ps,h=>by cases h;rfl
 | (i,x)::l,ps,h=>by
  unfold evp at h;split at h
  ·rename_i y Z H J;cases h;simp only [O3,aH G H,va G J]
  ·cases h
def CY {fs:Array Field}{w:World}(H:∀f∈fs.toList,∃z s b,T.inf f.type=some (z,s,b)):
  ∃pl:Array (Nat×Nat),(fs.mapM (m:=Sem) λf=>do pure (f.offset,<-sizeOf f.type)).run T.P w= .ok pl w/\
   ∀(i:Nat) (fd:Field) sz z b,fs[i]?=some fd->T.inf fd.type=some (z,sz,b)->pl[i]?=some (fd.offset,sz):=by
 obtain⟨l⟩:=fs;have key:∀l:List Field,(∀f∈l,∃z s b,T.inf f.type=some (z,s,b))->∃pl:List (Nat×Nat),(l.mapM (m:=Sem) λf=>do pure (f.offset,<-sizeOf f.type)).run T.P w= .ok pl w/\
   ∀(i:Nat) (fd:Field) sz z b,l[i]?=some fd->T.inf fd.type=some (z,sz,b)->pl[i]?=some (fd.offset,sz):=by
  intro l
  induction l with
  | nil=>intro _;exact⟨[],by simp,λi fd sz z b h=>by simp at h⟩
  | cons f l ih=>
   intro h;obtain⟨z,s,b,hf⟩:=h f (Pb);obtain⟨pl,J,Z⟩:=ih λg hg=>h g (OJ _ hg)
   refine⟨(f.offset,s)::pl,?_,?_⟩
   ·simp only [List.mapM_cons,OT,(bH hf w).1,OE,OV,J]
   ·intro i fd sz z' b' hi G;cases i with
    | zero=>simp at hi;subst hi;rw [hf]at G;cases G;rfl
    | succ i=>simpa using Z i fd sz z' b' (by simpa using hi) G
 obtain⟨pl,J,Z⟩:=key l H;refine⟨pl.toArray,?_,by simpa using Z⟩;rw [List.mapM_toArray];simp only [Sem.run_map,J];rfl
def FA {t s b:Nat}{fs:Array Field}{zs:Array Value}{ps:List (Nat×SV)}{xs:List SV}{parts:Array (Nat×Value)}(ht:T.und t=some (.struct fs))(hi:T.inf t=some (.agg zs,s,b))
  (H:∀f∈fs.toList,∃z s b,T.inf f.type=some (z,s,b)) (G:parts.toList=ps.map λp=>(p.1,p.2.val)) (J:∀x,x∈ps->x.2.val.cells=(cellsOf x.2).toArray) (hb:buildAg T fs (mapR svOf zs.toList) ps=some xs):
  (Instr.build t parts).run T.P w= .ok (.agg (SV.aS xs).toArray) w:=by
 obtain⟨pl,h1,h2⟩:=CY (w:=w) H;have hz:(SV.aS (mapR svOf zs.toList)).toArray=zs:=by
  have:∀l:List Value,SV.aS (mapR svOf l)=l:=by
   intro l;induction l with
   | nil=>rfl
   | cons v l ih=>simp only [mapR,SV.aS,AH,ih]
  rw [this]
 have hf:=EW (place:=(pl[·]?)) h2 ps _ xs J hb;rw [hz]at hf;have Z:(fs.mapM (m:=Sem) λf=>do let s<-sizeOf f.type;pure (f.offset,s)).run T.P w= .ok pl w:=h1;simp only [Instr.build,OT,(bH hi w).2,OE,bC ht,Value.cells];rw [Z];simp only [OE,G,hf,OV]
def Bz:∀(vs:List Value) (k o:Nat) (cur:List Value),o+k+vs.length<=cur.length->
  (vs.zipIdx k).foldl (λcs (p:Value×Nat)=>cs.setIfInBounds (o+p.2) p.1) cur.toArray=(cur.take (o+k)++vs++cur.drop (o+k+vs.length)).toArray
 | [],k,o,cur,h=>by simp
 | v::vs,k,o,cur,h=>by
  simp only [Ov]at h;simp only [List.zipIdx_cons,List.foldl_cons,List.setIfInBounds_toArray];rw [Bz vs (k+1) o _ (by simp;omega)]
  congr 1
  have G:o+k< cur.length:=by omega
  rw [show o+(k+1)=o+k+1 by omega,OC (by simp;omega),QJ (OB _),List.drop_set_of_lt (by omega)];simp [show o+k+1+vs.length=o+k+(vs.length+1) by omega]
def A0 {sz:Nat}:∀(ps:List (Nat×SV)) (zs cs:List Value),(∀x,x∈ps->x.2.val.cells=(cellsOf x.2).toArray)->buildRow sz zs ps=some cs->
   Instr.fill (λi=>some (i* sz,sz)) zs.toArray (ps.map λp=>(p.1,p.2.val))=some cs.toArray
 | [],zs,cs,_,h=>by cases h;rfl
 | (i,x)::r,zs,cs,H,h=>by
  unfold buildRow at h;split at h
  ·rename_i Z α G;have G:C8 zs (i* sz) (cellsOf x)=some Z:=G;obtain⟨h3,rfl⟩:=yQ G;have hc:(cellsOf x).length=sz:=BQ α;have ih:=A0 r _ cs (λy hy=>H y (OJ _ hy)) h;have J:=H (i,x) (Pb);simp only at J;simp only [O3,Instr.fill,J];rw [OP (by simp;omega)];rw [<-ih]
   congr 1
   have :=Bz (cellsOf x) 0 (i* sz) zs (by omega);simp only [QR]at this;rw [<-this,<-Array.foldl_toList,Array.toList_zipIdx]
  ·cases h
end
section
variable {T:ef} {N:Nat} {e:Env} {o:Oper} {a:Act} {w:World} {k:SV->Sb}
def FU (z:Array Value)(len sz:Nat)(J:z.size=sz)(h0:0< sz):((Array.range (len* sz)).map (z[· % z.size]!))=(List.replicate len z.toList).flatten.toArray:=by
 apply PY.1;simp only [PU,Array.toList_range];apply QW
 ·simp [J]
 ·intro i Z h2;simp only [OM,Ql]at Z;have hm:i % z.size< z.size:=Nat.mod_lt _ (by omega);simp only [QF,List.getElem_range];rw [getElem!_pos z _ hm];have key:∀(len i:Nat) (h:i< len* z.size) (h':i< (List.replicate len z.toList).flatten.length),(List.replicate len z.toList).flatten[i]=z[i % z.size]'(Nat.mod_lt _ (by omega)):=by
   intro len
   induction len with
   | zero=>intro i h;omega
   | succ len ih=>
    intro i h h';simp only [List.replicate_succ,List.flatten_cons];rw [List.getElem_append];split
    ·rename_i G;simp only [Array.length_toList]at G;simp only [Array.getElem_toList]
     congr 1
     exact(Nat.mod_eq_of_lt G).symm
    ·rename_i H;simp only [Array.length_toList]at H;simp only [Array.length_toList];rw [ih (i - z.size) (by rw [Nat.add_mul]at h;omega)]
     congr 1
     rw [<-Nat.mod_eq_sub_mod (by omega)]
  exact(key len i (by rw [J];exact Z) _).symm
def Dg {t el sz len b:Nat}{z:Value}{ps:List (Nat×SV)}{cs:List Value}{parts:Array (Nat×Value)}(ht:T.und t=some (.slice el))(hi:T.inf el=some (z,sz,b))(hz:z.cells.size=sz)(h0:0< sz)(hl:len* sz<=16777216)
  (G:parts.toList=ps.map λp=>(p.1,p.2.val)) (H:∀x,x∈ps->x.2.val.cells=(cellsOf x.2).toArray) (hb:buildRow sz (List.replicate len z.cells.toList).flatten ps=some cs):
  (Instr.buildSlice t len parts).run T.P w= .ok (.slice (some ⟨w.heap.size,0,none⟩) len len) (w.alloc (.cells cs.toArray el)):=by
 have J:=A0 ps _ cs H hb;simp only [Instr.buildSlice,OT,bC ht,OE,(bH hi w).1];rw [OP (by omega)];by_cases Z:len* sz=0
 ·have hlen:len=0:=by
   rcases Q1 len with h | h
   ·exact h
   ·have :=Nat.mul_pos h h0;omega
  subst hlen;simp only [Nat.zero_mul,Qu,OV,OE,OT];have:((Array.range 0).map ((#[]:Array Value)[· % (#[]:Array Value).size]!))=#[]:=by simp
  simp only [List.replicate_zero,List.flatten_nil]at J;simp only [this,G,J,OT,newRow,newObj,Sem.run,OE,OV,World.alloc]
 ·simp only [Z,Rb,OT,(bH hi w).2,OE,OV];rw [FU _ _ _ hz h0];simp only [G,J,OT,newRow,newObj,Sem.run,OE,OV,World.alloc]
def tz {t el:Nat}(G:T.und t=some (.pointer el))(q:Option Addr):
  (binOp .eql t (.pointer q) (.pointer none)).run T.P w= .ok (.bool q.isNone) w/\(binOp .neq t (.pointer q) (.pointer none)).run T.P w= .ok (.bool (!q.isNone)) w:=by
 have h:(Op.equal t (.pointer q) (.pointer none)).run T.P w= .ok q.isNone w:=by
  show(Op.equalIn Op.maxDepth t _ _).run T.P w=_;have:Op.maxDepth=(Op.maxDepth - 1)+1:=rfl;rw [this];cases q<;>simp only [Op.equalIn,OT,bC G,OE,OV]<;>rfl
 constructor<;>simp only [binOp,OT,h,OE,OV]
def zm {src dst el:Nat}{l:aD}(G:T.und src=some .string)(hd:T.und dst=some (.slice el))(he:T.und el=some (.int .u8)):
  ∃cap w',(convert src dst (.string (ak l))).run T.P w= .ok (.slice (some ⟨w.heap.size,0,none⟩) l.length cap) w'/\Ae w' el w.heap.size l/\w.grownBy w' none:=by
 have hr:=Go.Lib.run_convert_string_bytes (P:=T.P) w src dst el (ak l) (T.und_ok _ _ G) (T.und_ok _ _ hd) (T.und_ok _ _ he);rw [gm]at hr;refine⟨_,_,hr,⟨_,_,_,Go.Lib.bytesWorld_at_new w el (ak l),?_,?_,OB _⟩,⟨rfl,rfl,rfl,?_,λj H _=>Go.Lib.bytesWorld_at_old w el (ak l) j H⟩⟩
 ·simp [Go.Lib.bytesCells,dQ,ak,List.take_append]
 ·simp [Go.Lib.bytesCells,ak,ByteArray.size]
 ·rw [Go.Lib.bytesWorld_size];omega
def xj {b off n c:Nat}{l:aD}(Z:l.length=n)(hc:∀j x,l[j]?=some x->w.cell? ⟨b,off+j,none⟩=some (.int .u8 x.toNat)):
  (Conv.bytesToString (.slice (some ⟨b,off,none⟩) n c)).run T.P w= .ok (.string (ak l)) w:=by
 have G:(loadCells (⟨b,off,none⟩:Addr) n).run T.P w= .ok (dQ l).toArray w:=by
  unfold loadCells;refine rV n 0 (dQ l) #[] (by simp [dQ,Z]) (λj hj=>?_) (by simp);have J:j< l.length:=by omega
  rw [hc j l[j] (Ox J)];simp [dQ,J]
 have H:∀(l:aD) (s:ByteArray),(l.map λc=>((c.toNat:Int))).foldl (λr n=>r.push (UInt8.ofNat n.toNat)) s=s++ak l:=by
  intro l
  induction l with
  | nil=>intro s;apply ByteArray.ext;simp [ak]
  | cons x l ih=>
   intro s;simp only [O3,List.foldl_cons];rw [ih];apply ByteArray.ext;simp [ak]
 have hm:(dQ l)=(l.map λc=>((c.toNat:Int))).map (Value.int .u8):=by simp [dQ]
 have :=run_bytesToString (P:=T.P) w ⟨b,off,none⟩ n c (l.map λc=>((c.toNat:Int))) (by rw [G,hm]);rw [this,H]
 congr 2
def Cn {l:List Value}(h:l.all oneV=true):∀u∈l,u.oneCell'=true:=by
 intro u hu;have :=PL.1 h u hu;cases u<;>first | rfl | (cases this;done)
def Ac {P:Program}{w:World}(base:Nat)(t ty e:TypeId)(i:TypeInfo)(z:Value)(ht:P.underlying t=some (.slice e))(hi:P.info? e=some i)(hz:i.zero=some z)
  (v:Value) (n:Nat) (xs:List Value) (J:w.ownsRow base e i.size v n xs) (a:Addr) (m c:Nat) (news:List Value) (hl:news.length=m* i.size) (G:∀j u,news[j]?=some u->w.cell? (a.add j)=some u)
  (h1:∀u∈news,u.oneCell'=true) (γ:n+m<=maxLen) (H:(n+m)* i.bytes<=140737488355328) {v':Value} {w':World} (hr:(Builtin.append_ #[t,t] ty #[v,.slice (some a) m c]).run P w= .ok v' w'):
  ∀b,v'.ownBlock=some b->v.ownBlock=some b\/w.heap.size<=b:=by
 have β:n+m<=9223372036854775807:=by simp only [maxLen]at γ;omega
 intro b hb;rcases J.2 with⟨rfl,rfl⟩ | ⟨g,cap,cur,rfl,_,hg,ζ,η,δ,ε⟩
 ·by_cases hm:m=0
  ·subst hm;have hn:news=[]:=Pa (by simpa using hl);subst hn;have e1:(Builtin.append_ #[t,t] ty #[.slice none 0 0,.slice (some a) 0 c]).run P w= .ok (.slice none 0 0) w:=by
    simp [Builtin.append_,QZ ht,sizeOf,typeInfo,hi,Builtin.lenOf,Builtin.firstCells,loadCells,loadCellsFrom]
   rw [e1]at hr;cases hr;cases hb
  ·have e1:=run_append_nil (P:=P) w t ty e i z ht hi hz a m c news hl G (by omega) (by omega) (by simp only [O6]at H;omega);rw [e1]at hr;cases hr;right;simp only [Value.ownBlock,PJ]at hb;omega
 ·by_cases Z:n+m<=cap
  ·have α:n* i.size+news.length<=cur.size:=by rw [hl,δ,<-Nat.add_mul];exact RC _ Z
   have e1:=run_append_room (P:=P) w t ty e i ht hi g n cap cur hg a m c news hl G h1 Z α;rw [e1]at hr;cases hr;left;exact hb
  ·have holds:∀j u,xs[j]?=some u->w.cell? ((⟨g,0,none⟩:Addr).add j)=some u:=J.cells (g:=g) rfl;have e1:=run_append_grow (P:=P) w t ty e i z ht hi hz ⟨g,0,none⟩ n cap xs J.1 holds a m c news hl G (by omega) (by omega) (growslice_fits (by omega) H);rw [e1]at hr;cases hr;right;simp only [Value.ownBlock,PJ]at hb;omega
def Dx {t el sz by_:Nat}{z s x:Value}{ty:Nat}(ht:T.und t=some (.slice el))(hi:T.inf el=some (z,sz,by_))(hz:z.cells.size=sz)(h0:0< sz)(h:ux el sz by_ s x w k):
  ∃v w',(Builtin.append_ #[t,t] ty #[s,x]).run T.P w= .ok v w'/\k (.v v) w':=by
 obtain⟨base,n,m,xs,news,G,hb,⟨hl,h1,J⟩,⟨h2,h3⟩,hk⟩:=h;obtain⟨i,H,Z,α,β⟩:=T.inf_ok _ _ _ _ hi;rcases J with⟨rfl,rfl⟩ | ⟨b,off,c,rfl,hc⟩
 ·have hn:news=[]:=Pa (by simpa using hl);subst hn;refine⟨s,w,run_append_owned_none (P:=T.P) (w:=w) base t ty el i sz (T.und_ok _ _ ht) H s n xs G,?_⟩;exact hk s w (by simpa using G) ⟨rfl,rfl,rfl,OB _,λ _ _ _=>rfl⟩ λb hb=> .inl hb
 ·obtain⟨v,w',hr,ho,hg,_⟩:=run_append_own (P:=T.P) w base t ty el i z sz by_ (T.und_ok _ _ ht) H Z α β hz h0 s n xs G ⟨b,off,none⟩ m c news hl
   (λj u hu=>by rw [add_plain];exact hc j u hu) (Cn h1) h2 h3 hb
  refine⟨v,w',hr,hk v w' ho hg ?_⟩;subst α β;exact Ac base t ty el i z (T.und_ok _ _ ht) H Z s n xs G ⟨b,off,none⟩ m c news hl (λj u hu=>by rw [add_plain];exact hc j u hu) (Cn h1) h2 h3 hr
def Kv {p q:Int}{ts:Array Nat}{ty:Nat}:(Builtin.max_ ts ty #[.int .i64 p,.int .i64 q]).run T.P w= .ok (.int .i64 (if q> p then q else p)) w:=by
 simp [Builtin.max_,Builtin.max2]
def JY {p q:Int}{ts:Array Nat}{ty:Nat}:(Builtin.min_ ts ty #[.int .i64 p,.int .i64 q]).run T.P w= .ok (.int .i64 (if q< p then q else p)) w:=by
 simp [Builtin.min_,Builtin.min2]
def IV {p q:aD}{ts:Array Nat}{ty:Nat}:(Builtin.max_ ts ty #[.string (ak p),.string (ak q)]).run T.P w= .ok (.string (ak (if(!Op.bytesLess p q)then p else q))) w:=by
 simp only [Builtin.max_,List.foldlM_cons,List.foldlM_nil,Builtin.max2,Op.stringOp,OT,OV,OE,asBool,oI];split<;>rfl
def IA {p q:aD}{ts:Array Nat}{ty:Nat}:(Builtin.min_ ts ty #[.string (ak p),.string (ak q)]).run T.P w= .ok (.string (ak (if(Op.bytesLess p q||decide (p=q))then p else q))) w:=by
 simp only [Builtin.min_,List.foldlM_cons,List.foldlM_nil,Builtin.min2,Op.stringOp,OT,OV,OE,asBool,oI,iV];split<;>rfl
def GQ {t:Nat}{c:Call}{val:Value}{xs:List SV}{L:List Kd}{f:Nat}{ca:List Value}(H:aF N e a)(ho:o.op= .call c)(hc:c.callee= .value (.tmp t))(ht:look e t=some (.v val))(hv:val= .func (.func f) #[] ca.toArray)(hf:T.fn f=true)(hx:evs e c.args.toList=some xs)
  (h:Calls T.P f (SV.aS xs++ca).toArray w (aw L (Cur.mk L λys w'=>k (lW ys) w'))):cW T.P o a w k:=by
 intro next Q hn;obtain⟨g,hg,hb,β⟩:=T.fn_ok f hf;have G:c.args.map a.eval=(SV.aS xs).toArray:=by
  apply PY.1;rw [PU,iA H hx]
 have J:a.eval (.tmp t)= .func (.func f) #[] ca.toArray:=by rw [aH H (x:= .tmp t) ht];exact hv
 have Z:(execOp a.eval o).run T.P w= .ok (.enter f (SV.aS xs++ca).toArray) w:=by
  simp only [execOp,ho,resolve,hc,J,G,Deferred.ofValue,OT,OV,OE,invoke,callFunc,run_program,hg,hb,β];simp
 unfold Oper.wp;rw [Z,Oper.upon_enter];refine Calls.mono h λe' w' hr=>?_
 obtain⟨ys,rfl,α,_⟩:=ly.get _ _ _ _ _ hr;obtain⟨zs,hz,hk⟩:=Cur.DB _ _ _ _ α;have :=hn _ _ hk;simpa [kz hz]using this
end
section
variable {T:ef} {N:Nat} {e:Env} {o:Oper} {a:Act} {w:World} {k:SV->Sb}
def jr {el i:Nat}{cs:Array Value}{v:Value}(h:single (T.und el)=true)(G:cs[i]?=some v):(part el cs i).run T.P w= .ok v w:=by
 unfold part;simp only [OT,pv h,OE,G];simp
def xJ {t el bb d:Nat}{z H J Z y1:Value}{G b1:Bool}(ht:T.und t=some (.array 2 el))(hi:T.inf el=some (z,1,bb))(hs:single (T.und el)=true)
  (h0:(Op.equalIn d el H Z).run T.P w= .ok G w) (h1:(Op.equalIn d el J y1).run T.P w= .ok b1 w):(Op.equalIn (d+1) t (.agg #[H,J]) (.agg #[Z,y1])).run T.P w= .ok (G&&b1) w:=by
 have p0:∀(a b:Value),(part el #[a,b] 0).run T.P w= .ok a w:=λa b=>jr hs rfl
 have p1:∀(a b:Value),(part el #[a,b] 1).run T.P w= .ok b w:=λa b=>jr hs rfl
 cases G<;>cases b1<;>simp [Op.equalIn,OT,bC ht,(bH hi w).1,OE,QM,List.range',p0,p1,h0,h1,OV]
def F8 {t el H d:Nat}{z J Z y0 y1:Value}(ht:T.und t=some (.array 2 el))(hi:T.inf el=some (z,1,H))(he:T.und el=some (.int .u32)):(Op.eqGuardIn (d+2) t (.agg #[J,Z]) (.agg #[y0,y1])).run T.P w= .ok false w:=by
 have G:single (T.und el)=true:=by rw [he]
 have p0:∀(a b:Value),(part el #[a,b] 0).run T.P w= .ok a w:=λa b=>jr G rfl
 have p1:∀(a b:Value),(part el #[a,b] 1).run T.P w= .ok b w:=λa b=>jr G rfl
 have g:∀x y:Value,(Op.eqGuardIn (d+1) el x y).run T.P w= .ok false w:=λx y=>by
  simp [Op.eqGuardIn,OT,bC he,OE,OV]
 unfold Op.eqGuardIn;simp [OT,bC ht,(bH hi w).1,OE,QM,List.range',p0,p1,g,OV]
structure mM (T:ef)(kt:Nat)(d:TypeDesc):Prop where
 check:∀(w:World) (q:Value) (e:Bool),lO d q->(Instr.checkKey e 10000 kt q).run T.P w= .ok () w
 find:∀(w:World) (q:Value) (l:List MapEntry),lO d q->(∀x∈l,lO d x.key)->((Instr.findKey kt q l).run T.P w= .ok none w/\∀x∈l,x.key≠q)\/∃j x,(Instr.findKey kt q l).run T.P w= .ok (some (j,x.val)) w/\l[j]?=some x/\x.key=q
 stays:∀(w:World) (q:Value),lO d q->(Instr.keyThatStays q q).run T.P w= .ok q w
def ox {kt:Nat}{d:TypeDesc}(hd:T.und kt=some d)(H:∀q,lO d q↔MapKept.IsKey d q):mM T kt d:=by
 have G:=T.und_ok _ _ hd;refine⟨λw q e h=>MapKept.run_checkKey G ((H q).1 h) e 9999,λw q l h hl=>?_,λw q h=>MapKept.run_keyThatStays ((H q).1 h)⟩;rcases MapKept.findNow_spec ((H q).1 h) l 0 (λx hx=>(H _).1 (hl x hx))with⟨J,Z⟩ | ⟨j,x,J,Z,h3⟩
 ·exact .inl ⟨MapKept.run_findKey G J,Z⟩
 ·exact .inr ⟨j,x,by rw [O6]at J;exact MapKept.run_findKey G J,Z,h3⟩
def Bp {kt e bb:Nat}{z:Value}(hd:T.und kt=some (.array 2 e))(he:T.und e=some .string)(hi:T.inf e=some (z,1,bb)){q:Value}(hq:lO (.array 2 e) q):∀(l:List MapEntry) (i:Nat),(∀x∈l,lO (.array 2 e) x.key)->
  ((Instr.findAsking kt q l i).run T.P w= .ok none w/\∀x∈l,x.key≠q)\/∃j x,(Instr.findAsking kt q l i).run T.P w= .ok (some (i+j,x.val)) w/\l[j]?=some x/\x.key=q
 | [],i,_=> .inl ⟨rfl,by simp⟩
 | x::l,i,h=>by
  obtain⟨_,a,b,rfl⟩:=hq;obtain⟨_,c,d,H⟩:=h x (by simp);have hs:single (T.und e)=true:=by rw [he]
  have es:∀(a b:ByteArray) (n:Nat),(Op.equalIn (n+1) e (.string a) (.string b)).run T.P w= .ok (a==b) w:=λa b n=>by
   simp only [Op.equalIn,OT,bC he,OE,OV]
  have eq:(Op.equal kt (.agg #[.string a,.string b]) x.key).run T.P w= .ok ((a==c)&&(b==d)) w:=by
   rw [H];exact xJ hd hi hs (es _ _ _) (es _ _ _)
  cases hb:((a==c)&&(b==d))with
  | true=>
   rw [hb]at eq;simp only [OA,MapKept.bytes_beq]at hb;exact .inr ⟨0,x,by simp only [Instr.findAsking,OT,eq,OE];rfl,rfl,by rw [H,hb.1,hb.2]⟩
  | false=>
   rw [hb]at eq;have J:x.key≠ .agg #[.string a,.string b]:=λe=>by
    rw [H]at e;simp only [Value.agg.injEq,Array.mk.injEq,Po,Qv,Qz]at e;obtain⟨rfl,rfl⟩:=e;have:((c==c)&&(d==d))=true:=by rw [OA,MapKept.bytes_beq,MapKept.bytes_beq];exact⟨rfl,rfl⟩
    rw [this]at hb;cases hb
   have st:(Instr.findAsking kt (.agg #[.string a,.string b]) (x::l) i).run T.P w=(Instr.findAsking kt (.agg #[.string a,.string b]) l (i+1)).run T.P w:=by
    simp only [Instr.findAsking,OT,eq,OE];rfl
   rcases Bp hd he hi ⟨rfl,a,b,rfl⟩ l (i+1) (λy G=>h y (by simp [G]))with⟨Z,h2⟩ | ⟨j,y,Z,h2,h3⟩
   ·refine .inl ⟨st.trans Z,λy G=>?_⟩;rcases OY.1 G with rfl | G
    ·exact J
    ·exact h2 y G
   ·exact .inr ⟨j+1,y,by rw [st,Z,show i+1+j=i+(j+1) by omega],by simpa using h2,h3⟩
def HZ {kt e J:Nat}{z:Value}(hd:T.und kt=some (.array 2 e))(he:T.und e=some .string)(hi:T.inf e=some (z,1,J)):mM T kt (.array 2 e):=by
 have H:single (T.und e)=true:=by rw [he]
 refine⟨λw q em h=>?_,λw q l h Z=>?_,λw q h=>?_⟩
 ·obtain⟨_,a,b,rfl⟩:=h;have p0:(part e #[.string a,.string b] 0).run T.P w= .ok (.string a) w:=jr H rfl;have p1:(part e #[.string a,.string b] 1).run T.P w= .ok (.string b) w:=jr H rfl;have g:∀a:ByteArray,(Instr.checkKey em 9999 e (.string a)).run T.P w= .ok () w:=λa=>by
   show(Instr.checkKey em (9998+1) e (.string a)).run T.P w=_;unfold Instr.checkKey;simp [OT,bC he,OE]
  show(Instr.checkKey em (9999+1) kt _).run T.P w=_;unfold Instr.checkKey;simp [OT,bC hd,(bH hi w).1,OE,QM,List.range',p0,p1,g,OV]
 ·have fa:(Instr.findKey kt q l).run T.P w=(Instr.findAsking kt q l 0).run T.P w:=by
   unfold Instr.findKey;simp only [OT,bC hd,OE];cases l with
   | nil=>rfl
   | cons x l=>rfl
  rw [fa];rcases Bp hd he hi h l 0 Z with G | ⟨j,x,G,h2⟩
  ·exact .inl G
  ·exact .inr ⟨j,x,by rw [O6]at G;exact G,h2⟩
 ·obtain⟨_,a,b,rfl⟩:=h;have:Instr.sameBits 10000 (.agg #[.string a,.string b]) (.agg #[.string a,.string b])=true:=by
   show Instr.sameBits (9999+1) _ _=true;simp [Instr.sameBits,MapKept.bytes_beq]
  simp [Instr.keyThatStays,this]
def mN {kt:Nat}{d:TypeDesc}{y:SV}(hd:T.und kt=some d)(h:keyOkT T d y=true):mM T kt d/\lO d y.val:=by
 unfold keyOkT at h;split at h
 ·rename_i G;unfold keyOk at G;split at G
  ·exact⟨ox hd λq=>Rx,rfl⟩
  ·exact⟨ox hd λq=>Rx,rfl⟩
  ·exact⟨ox hd λq=>Rx,trivial⟩
  ·cases G
 ·split at h
  ·rename_i H he hi;have H:=lf H;subst H;exact⟨HZ hd he (oh hi),rfl,_,_,rfl⟩
  ·cases h
 ·cases h
def jz {es:List MapEntry}{q:Value}{x:MapEntry}(J:(es.map (·.key)).Nodup)(G:x∈es)(Z:x.key=q):eM es q=some x.val:=by
 unfold eM
 induction es with
 | nil=>cases G
 | cons y l ih=>
  rw [O3,PB]at J;by_cases H:y.key=q
  ·rw [List.find?_cons_of_pos (by simpa using H)];rcases OY.1 G with rfl | G
   ·rfl
   ·exfalso;exact J.1 (Pf.2 ⟨x,G,by rw [Z,H]⟩)
  ·rw [List.find?_cons_of_neg (by simpa using H)];rcases OY.1 G with rfl | G
   ·exact absurd Z H
   ·exact ih J.2 G
def iS {es:List MapEntry}{q:Value}(h:∀x∈es,x.key≠q):eM es q=none:=by
 unfold eM;rw [List.find?_eq_none.2 λx G=>by simpa using h x G];rfl
def pw (es:List MapEntry)(q:Value):(∃x∈es,x.key=q/\eM es q=some x.val)\/((∀x∈es,x.key≠q)/\eM es q=none):=by
 by_cases h:∀x∈es,x.key≠q
 ·exact .inr ⟨h,iS h⟩
 ·left;unfold eM;cases G:es.find? λx=>@decide (x.key=q) (Classical.propDecidable _)with
  | none=>exact absurd (λx H=>by simpa using List.find?_eq_none.1 G x H) h
  | some x=>
   have J:=Q7 G;have Z:=List.find?_some G;exact⟨x,J,by simpa using Z,rfl⟩
def Bq {t:Nat}:(Instr.makeMap t none).run T.P w= .ok (.map (some w.heap.size)) (w.alloc (.map #[] 0)):=by
 rfl
def AK {d:TypeDesc}{es:Array MapEntry}(h:∀x∈es.toList,lO d x.key)(i:Nat)(f:MapEntry->MapEntry)(G:∀e,es[i]?=some e->(f e).key=e.key):∀x∈(es.modify i f).toList,lO d x.key:=by
 intro x H;have:x.key∈(es.modify i f).toList.map (·.key):=Pf.2 ⟨x,H,rfl⟩;rw [MapKept.modify_keys i f G]at this;obtain⟨y,J,e⟩:=Pf.1 this;rw [<-e];exact h y J
def qn {r:Nat}{o H:Obj}(hb:w.heap[r]?=some o):dO w {w with heap:=w.heap.setIfInBounds r H} r:=⟨rfl,rfl,rfl,by simp,λb G=>(RG hb).2 b G⟩
def uT {r clock:Nat}{d:TypeDesc}{q:Value}(z:Value){m:Value->Option Value}{es:Array MapEntry}(hb:w.heap[r]?=some (.map es clock))(hs:MapKept.Stamped es clock)(α:∀x∈es.toList,lO d x.key)(J:∀q,m q=eM es.toList q)(hq:lO d q)(h2:∀x∈es.toList,x.key≠q):
  IsMap {w with heap:=w.heap.setIfInBounds r (.map (es.push {key:=q,val:=z,born:=clock}) (clock+1))} r d (gF m q z):=by
 have H:=MapKept.stamped_push hs h2 (val:=z);refine⟨_,_,(RG hb).1,H,?_,λp=>?_⟩
 ·intro x G;simp only [Rw,OH,OL]at G;rcases G with G | rfl
  ·exact α x G
  ·exact hq
 ·rw [Rw];unfold gF;by_cases Z:p=q
  ·rw [O' Z];refine(jz (x:={key:=q,val:=z,born:=clock}) ?_ (by simp) Z.symm).symm;have :=H.2.2
   rwa [Rw]at this
  ·rw [OP Z,J p];rcases pw es.toList p with⟨x,k1,k2,k3⟩ | ⟨k1,k2⟩
   ·rw [k3];refine(jz (x:=x) ?_ (by simp [k1]) k2).symm;have :=H.2.2
    rwa [Rw]at this
   ·rw [k2];refine(iS λx G=>?_).symm;rcases OH.1 G with G | G
    ·exact k1 x G
    ·have:x={key:=q,val:=z,born:=clock}:=by simpa using G
     subst this;exact λe=>Z e.symm
def sa {es:Array MapEntry}{j:Nat}{x:MapEntry}(G:es[j]?=some x){f g:MapEntry->MapEntry}(h:f x=g x):es.modify j f=es.modify j g:=by
 apply Array.ext_getElem?;intro i;rw [Qh,Qh];split
 ·rename_i e;subst e;rw [G];simp [h]
 ·rfl
def kI {r clock j:Nat}{d:TypeDesc}{q:Value}(z:Value){m:Value->Option Value}{es:Array MapEntry}{x:MapEntry}(hb:w.heap[r]?=some (.map es clock))(hs:MapKept.Stamped es clock)(β:∀x∈es.toList,lO d x.key)(α:∀q,m q=eM es.toList q)(hj:es[j]?=some x)(h3:x.key=q):
  IsMap {w with heap:=w.heap.setIfInBounds r (.map (es.modify j λe=>{e with key:=q,val:=z}) clock)} r d (gF m q z):=by
 have J:∀e',es[j]?=some e'->({e' with key:=q,val:=z}:MapEntry).key=e'.key:=λe' H=>by rw [hj]at H;cases H;exact h3.symm
 have Z:MapKept.Stamped (es.modify j λe=>{e with key:=q,val:=z}) clock:=MapKept.stamped_modify hs _ _ (λ _ _=>rfl) (λe' _ H=>J e' H);refine⟨_,_,(RG hb).1,Z,AK β _ _ J,λp=>?_⟩;have δ:j< es.size:=(Ph.1 hj).1;have G:∀i,(es.modify j λe=>{e with key:=q,val:=z}).toList[i]?=if i=j then some {x with key:=q,val:=z}else es.toList[i]?:=λi=>by
  rw [PO,Qh];by_cases hi:j=i
  ·subst hi;simp [hj]
  ·simp [hi,Ry hi]
 unfold gF;by_cases hp:p=q
 ·rw [O' hp];refine(jz (x:={x with key:=q,val:=z}) Z.2.2 (QG (i:=j) (by rw [G,O' rfl])) hp.symm).symm
 ·rw [OP hp,α p];rcases pw es.toList p with⟨y,k1,k2,k3⟩ | ⟨k1,k2⟩
  ·rw [k3];obtain⟨i,hi,e⟩:=PK.1 k1;have γ:i≠j:=λhh=>by
    subst hh;have:es.toList[i]?=some y:=by rw [Ox hi,e]
    rw [PO,hj]at this;cases this;exact hp (k2.symm.trans h3)
   refine(jz (x:=y) Z.2.2 (QG (i:=i) (by rw [G,OP γ,Ox hi,e])) k2).symm
  ·rw [k2];refine(iS λy hy=>?_).symm;obtain⟨i,hi⟩:=List.mem_iff_getElem?.1 hy;rw [G]at hi;split at hi
   ·cases hi;exact λe=>hp e.symm
   ·exact k1 y (QG hi)
def wB {t kt et r:Nat}{d:TypeDesc}{q z:Value}{m:Value->Option Value}(hm:T.und t=some (.map kt et))(hd:mM T kt d)(J:lO d q)(h:IsMap w r d m):
  ∃w',(Instr.mapUpdate t (.map (some r)) q z).run T.P w= .ok () w'/\IsMap w' r d (gF m q z)/\dO w w' r:=by
 obtain⟨es,clock,hb,hs,H,G⟩:=h;have Z:=T.und_ok _ _ hm;rcases hd.find w q es.toList J H with⟨h1,h2⟩ | ⟨j,x,h1,h2,h3⟩
 ·refine⟨_,?_,uT z hb hs H G J h2,qn hb⟩;simp [Instr.mapUpdate,QZ Z,Qy hb,hd.check w q _ J,h1,QS _ hb,Result.andThen]
 ·have hj:es[j]?=some x:=by simpa using h2
  refine⟨_,?_,kI z hb hs H G hj h3,qn hb⟩;simp [Instr.mapUpdate,QZ Z,Qy hb,hd.check w q _ J,h1,hj,h3,hd.stays w q J,QS _ hb,Result.andThen]
def yr {t kt et r:Nat}{d:TypeDesc}{q:Value}{m:Value->Option Value}{i:Value×Nat×Nat}(hm:T.und t=some (.map kt et))(hd:mM T kt d)(hi:T.inf et=some i)(J:lO d q)(h:IsMap w r d m):
  ∃v0 s w',(Instr.mapEntry t (.map (some r)) q).run T.P w= .ok (.tuple #[v0,.int .i64 s]) w'/\IsMap w' r d (gF m q v0)/\dO w w' r/\ER w' r s q:=by
 obtain⟨es,clock,hb,hs,H,G⟩:=h;obtain⟨z,sz,bb⟩:=i;have Z:=T.und_ok _ _ hm;rcases hd.find w q es.toList J H with⟨h1,h2⟩ | ⟨j,x,h1,h2,h3⟩
 ·refine⟨z,clock,_,?_,uT z hb hs H G J h2,qn hb,_,_,es.size,{key:=q,val:=z,born:=clock},(RG hb).1,by simp,rfl,rfl⟩;simp [Instr.mapEntry,QZ Z,Qy hb,hd.check w q _ J,h1,(bH hi w).2,QS _ hb,Result.andThen,goInt]
 ·have hj:es[j]?=some x:=by simpa using h2
  have e:es.modify j (λe=>{e with key:=q})=es.modify j λe=>{e with key:=q,val:=x.val}:=sa hj rfl
  refine⟨x.val,x.born,_,?_,kI x.val hb hs H G hj h3,qn hb,_,_,j,{x with key:=q,val:=x.val},(RG hb).1,by simp [Qh,hj],rfl,rfl⟩;simp [Instr.mapEntry,QZ Z,Qy hb,hd.check w q _ J,h1,hj,h3,hd.stays w q J,QS _ hb,Result.andThen,goInt,e]
def vW {t r:Nat}{d:TypeDesc}{q z:Value}{s:Int}{m:Value->Option Value}(h:IsMap w r d m)(he:ER w r s q):
  ∃w',(Instr.entryStore t (.map (some r)) (.int .i64 s) z).run T.P w= .ok () w'/\IsMap w' r d (gF m q z)/\dO w w' r:=by
 obtain⟨es,clock,hb,hs,α,G⟩:=h;obtain⟨γ,Z,j,x,H,hj,hk,rfl⟩:=he;rw [hb]at H;cases H;have e:es.modify j (λe=>{e with val:=z})=es.modify j λe=>{e with key:=q,val:=z}:=sa hj (by rw [<-hk])
 have β:j< es.size:=(Ph.1 hj).1;have J:es[j]=x:=(Ph.1 hj).2;have hf:es.findIdx? (λe=>(e.born:Int)==(x.born:Int))=some j:=by
  rw [Array.findIdx?_eq_some_iff_getElem];refine⟨β,by simp [J],λi hi=>?_⟩;have δ:=hs.2.1;intro hb;have hb:es[i].born=es[j].born:=by
   have:(es[i].born:Int)=x.born:=by simpa using hb
   rw [J];omega
  have h1:(es.toList.map (·.born))[i]'(by simp;omega)=(es.toList.map (·.born))[j]'(by simp;omega):=by simpa using hb
  have :=(List.getElem_inj (((MapKept.stamped_iff es clock).1 hs).2.1)).1 h1;omega
 refine⟨_,?_,kI z hb hs α G hj hk,qn hb⟩;simp [Instr.entryStore,Qy hb,asInt,asIntOf,hf,QS _ hb,Result.andThen,e]
def CA {t kt et r s sb:Nat}{d:TypeDesc}{q z:Value}{m:Value->Option Value}{ok:Bool}(hm:T.und t=some (.map kt et))(hd:mM T kt d)(hi:T.inf et=some (z,s,sb))(Z:lO d q)(h:IsMap w r d m)
  {y:Value} {g:Bool} (hg:(g=true/\m q=some y)\/(g=false/\m q=none/\y=z)):
  (Instr.lookup t (.map (some r)) q ok).run T.P w= .ok (if ok then .tuple #[y,.bool g]else y) w:=by
 obtain⟨es,clock,hb,hs,α,G⟩:=h;have H:=T.und_ok _ _ hm;rcases hd.find w q es.toList Z α with⟨h1,h2⟩ | ⟨j,x,h1,h2,h3⟩
 ·have J:m q=none:=by rw [G];exact iS h2
  rcases hg with⟨_,h⟩ | ⟨rfl,_,rfl⟩
  ·rw [J]at h;cases h
  ·simp [Instr.lookup,QZ H,Qy hb,hd.check w q _ Z,h1,(bH hi w).2,Result.andThen]
 ·have J:m q=some x.val:=by rw [G];exact jz hs.2.2 (QG h2) h3
  rcases hg with⟨rfl,h⟩ | ⟨_,h,_⟩
  ·rw [J]at h;cases h;simp [Instr.lookup,QZ H,Qy hb,hd.check w q _ Z,h1,Result.andThen]
  ·rw [J]at h;cases h
def qF {z:Value}(h:oneV z=true):z.cells=#[z]:=by cases z<;>first | rfl | cases h
def wI {z:Value}(h:oneV z=true)(n:Nat):(Builtin.zeroCells z.cells n).toList=List.replicate n z:=by
 rw [qF h];unfold Builtin.zeroCells;rw [PU,Array.toList_range];refine QW (by simp) λi G H=>?_
 simp [Nat.mod_one]
def Hm {z:Value}(h:oneV z=true)(n:Nat):madeCells z.cells n=(List.replicate n z).toArray:=by
 rw [qF h];unfold madeCells;apply PY.1;rw [PU,Array.toList_range];refine QW (by simp) λi G H=>?_
 simp [Nat.mod_one]
def xn {t el s:Nat}{n:Int}{z:Value}(H:T.und t=some (.slice el))(hi:T.inf el=some (z,1,s))(J:oneV z=true)(hs:s<=256)(G:0<=n)(h1:n<=1099511627776):
  (Instr.makeSlice t (.int .i64 n) (.int .i64 n)).run T.P w= .ok (.slice (some ⟨w.heap.size,0,none⟩) n.toNat n.toNat) (w.alloc (.cells (List.replicate n.toNat z).toArray el)):=by
 obtain⟨i,Z,h3,h4,h5⟩:=T.inf_ok _ _ _ _ hi;have hb:(i.bytes:Int)* n<=256* n:=Int.mul_le_mul_of_nonneg_right (by omega) G;rw [run_make w t el i z (T.und_ok _ _ H) Z h3 .i64 .i64 n n G (Int.le_refl _) (by omega) (by omega),h4,O8,Hm J]
def Fh {t el ty n cap b off Z:Nat}{z:Value}(H:T.und t=some (.slice el))(hi:T.inf el=some (z,1,Z))(J:oneV z=true)(hc:∀j,j< n->(∃u,w.cell? ⟨b,off+j,none⟩=some u)/\w.frozen? ⟨b,off+j,none⟩=false):
  (Builtin.clear_ #[t] ty #[.slice (some ⟨b,off,none⟩) n cap]).run T.P w= .ok (.tuple #[]) (World.setCells w b off (List.replicate n z)):=by
 have G:=oJ (T:=T) (b:=b) (List.replicate n z) off 0 w (by simp [J]) (by simpa using hc);cases n with
 | zero=>simp [Builtin.clear_,bC H,World.setCells]
 | succ n=>
  simp only [Builtin.clear_,Rr,PN,OT,bC H,OE,(bH hi w).2,wI J,G,QR,OV]
def CP {t el ty cap:Nat}{G:Option Addr}(H:T.und t=some (.slice el)):(Builtin.clear_ #[t] ty #[.slice G 0 cap]).run T.P w= .ok (.tuple #[]) w:=by
 cases G<;>simp [Builtin.clear_,bC H]
def Du {t n el s b:Nat}{zs:Array Value}(G:T.und t=some (.array n el))(hi:T.inf t=some (.agg zs,s,b))(he:(T.inf el).isSome=true):(Instr.build t #[]).run T.P w= .ok (.agg zs) w:=by
 obtain⟨⟨z,J,Z⟩,H⟩:=Re.1 he;simp [Instr.build,(bH hi w).2,bC G,(bH H w).1,Instr.fill,Value.cells,Result.andThen]
def EL:∀(ps:List (Nat×SV)) (zs xs:List SV),(∀x,x∈ps->x.2.val.cells=(cellsOf x.2).toArray)->buildAr zs ps=some xs->
  Instr.fill (λi=>some (i* 1,1)) (SV.aS zs).toArray (ps.map λp=>(p.1,p.2.val))=some (SV.aS xs).toArray
 | [],zs,xs,_,h=>by cases h;rfl
 | (i,x)::r,zs,xs,G,h=>by
  unfold buildAr at h;split at h
  ·rename_i α hc H;obtain⟨H,rfl⟩:=zQ H;have ih:=EL r _ xs (λy hy=>G y (OJ _ hy)) h;have Z:x.val.cells=#[x.val]:=by
    rw [G (i,x) (Pb)];cases x<;>first | rfl | (cases hc;done)
   simp only [O3,Instr.fill,Z,O8];rw [OP (by simp [ic];omega)];have J:(#[x.val].zipIdx.foldl (λcs (c,j)=>cs.setIfInBounds (i+j) c) (SV.aS zs).toArray)=(SV.aS (zs.set i x)).toArray:=by
    rw [vj];simp
   rw [J];simp only [O8]at ih;exact ih
  ·cases h
def BA {t n el s b Z:Nat}{z:Value}{zs:Array Value}{ps:List (Nat×SV)}{xs:List SV}{parts:Array (Nat×Value)}(ht:T.und t=some (.array n el))(hi:T.inf t=some (.agg zs,s,b))(he:T.inf el=some (z,1,Z))
  (G:parts.toList=ps.map λp=>(p.1,p.2.val)) (H:∀x,x∈ps->x.2.val.cells=(cellsOf x.2).toArray) (hb:buildAr (mapR svOf zs.toList) ps=some xs):
  (Instr.build t parts).run T.P w= .ok (.agg (SV.aS xs).toArray) w:=by
 have hz:(SV.aS (mapR svOf zs.toList)).toArray=zs:=by
  have:∀l:List Value,SV.aS (mapR svOf l)=l:=by
   intro l;induction l with
   | nil=>rfl
   | cons v l ih=>simp only [mapR,SV.aS,AH,ih]
  rw [this]
 have J:=EL ps _ xs H hb;rw [hz]at J;simp only [Instr.build,OT,(bH hi w).2,OE,bC ht,Value.cells,(bH he w).1,G,J,OV]
def C6 {t el bb:Nat}{z:Value}{G H J Z:UInt32}(ht:T.und t=some (.array 2 el))(he:T.und el=some (.int .u32))(hi:T.inf el=some (z,1,bb)):
  (binOp .neq t (.agg #[.int .u32 G.toNat,.int .u32 H.toNat]) (.agg #[.int .u32 J.toNat,.int .u32 Z.toNat])).run T.P w= .ok (.bool (!(decide (G=J)&&decide (H=Z)))) w:=by
 have hs:single (T.und el)=true:=by rw [he]
 have es:∀(a b:UInt32) (n:Nat),(Op.equalIn (n+1) el (.int .u32 a.toNat) (.int .u32 b.toNat)).run T.P w= .ok (decide (a=b)) w:=λa b n=>by
  simp only [Op.equalIn,OT,bC he,OE,Qu,OV,Jo]
 have h:(Op.equal t (.agg #[.int .u32 G.toNat,.int .u32 H.toNat]) (.agg #[.int .u32 J.toNat,.int .u32 Z.toNat])).run T.P w= .ok (decide (G=J)&&decide (H=Z)) w:=
  xJ ht hi hs (es _ _ _) (es _ _ _)
 simp only [binOp,OT,h,OE,OV]
def zO {t el bb:Nat}{z G H J Z:Value}{xo yo:Operand}(ht:T.und t=some (.array 2 el))(he:T.und el=some (.int .u32))(hi:T.inf el=some (z,1,bb)):
  (eqGuard .neq t xo yo (.agg #[G,H]) (.agg #[J,Z])).run T.P w= .ok () w:=by
 have g:(Op.eqGuardIn Op.maxDepth t (.agg #[G,H]) (.agg #[J,Z])).run T.P w= .ok false w:=F8 (d:=Op.maxDepth - 2) ht hi he;unfold eqGuard;cases hb:T.P.eqGuardType T.P.depth t<;>simp [OT,run_program,OE,hb,g]
def xB {t el:Nat}(G:T.und t=some (.slice el))(q:Option Addr)(n c:Nat):
  (binOp .eql t (.slice q n c) (.slice none 0 0)).run T.P w= .ok (.bool q.isNone) w/\(binOp .neq t (.slice q n c) (.slice none 0 0)).run T.P w= .ok (.bool (!q.isNone)) w:=by
 have h:(Op.equal t (.slice q n c) (.slice none 0 0)).run T.P w= .ok q.isNone w:=by
  show(Op.equalIn Op.maxDepth t _ _).run T.P w=_;have:Op.maxDepth=(Op.maxDepth - 1)+1:=rfl;rw [this];cases q<;>simp only [Op.equalIn,OT,bC G,OE,OV]<;>rfl
 constructor<;>simp only [binOp,OT,h,OE,OV]
end
def pure_run {T:ef}{N:Nat}{e:Env}{o:Oper}{a:Act}{k:SV->Prop}(G:aF N e a)(h:yZ T e o k):cw T.P o a k:=by
 unfold yZ pureR at h;split at h
 ·rename_i x J;split at h
  ·exact xN G (.inl J) (by assumption) h
  ·exact h.elim
 ·rename_i x J;split at h
  ·exact xN G (.inr J) (by assumption) h
  ·exact h.elim
 ·rename_i c x y J;split at h
  ·rename_i hc;split at h
   ·exact xt G J (aH G hc) (by simpa using ‹_›) h
   ·exact h.elim
  ·rename_i hc;split at h
   ·exact xt G J (aH G hc) (by simpa using ‹_›) h
   ·exact h.elim
  ·exact h.elim
 ·rename_i op t x y yt J;split at h
  ·rename_i p q H hy;split at h
   ·rename_i z hz;exact dR G J H hy (C4 hz) (λw=>GD hz) h
   ·split at h
    ·rename_i pr z hz;exact dR G J H hy (Dt hz) (λw=>Iw hz h.1) h.2
    ·split at h
     ·rename_i Z hb hc _ _;exact dR (z:= .b _) G J H hy (yc hb) (by rw [pf hb,pf hc];exact λw=>(uQ Z _ _).1) h
     ·rename_i Z hb hc _ _;exact dR (z:= .b _) G J H hy (yc hb) (by rw [pf hb,pf hc];exact λw=>(uQ Z _ _).2) h
     ·rename_i el Z _ _ _ _;split at h
      ·obtain⟨q,rfl,h⟩:=h;exact dR (z:= .b _) G J H hy (λ _=>rfl) (λw=>(tz Z q).1) h
      ·exact dR (z:= .ff) G J H hy (λ _=>rfl) (λw=>(tz Z (some _)).1) h
      ·exact h.elim
     ·rename_i el Z _ _ _ _;split at h
      ·obtain⟨q,rfl,h⟩:=h;exact dR (z:= .b _) G J H hy (λ _=>rfl) (λw=>(tz Z q).2) h
      ·exact dR (z:= .tt) G J H hy (λ _=>rfl) (λw=>(tz Z (some _)).2) h
      ·exact h.elim
     ·rename_i el Z _ _ _ _;split at h
      ·split at h
       ·rename_i hn hm;have hn:=lf hn;have hm:=lf hm;subst hn;subst hm;obtain⟨q,n,c,rfl,h⟩:=h;exact dR (z:= .b _) G J H hy (λ _=>rfl) (λw=>(xB Z q n c).1) h
       ·exact h.elim
      ·exact h.elim
     ·rename_i el Z _ _ _ _;split at h
      ·split at h
       ·rename_i hn hm;have hn:=lf hn;have hm:=lf hm;subst hn;subst hm;obtain⟨q,n,c,rfl,h⟩:=h;exact dR (z:= .b _) G J H hy (λ _=>rfl) (λw=>(xB Z q n c).2) h
       ·exact h.elim
      ·exact h.elim
     ·rename_i el Z _ _ _ _;split at h
      ·rename_i hu hi _ _ _ _;have hn:=lf (by assumption);subst hn;have hi:=oh hi;obtain⟨x0,x1,y0,y1,rfl,rfl,h⟩:=h;refine cw.mk _ h λw=>yU J ?_ ?_
       ·rw [aH G H,aH G hy];exact zO Z hu hi
       ·rw [aH G H,aH G hy];exact C6 Z hu hi
      ·exact h.elim
     ·split at h
      ·obtain⟨q,hq,h⟩:=h;refine cw.mk (.b q) h λw=>yU J ?_ ?_
       ·rw [aH G H,aH G hy];exact(hq x y w).1
       ·rw [aH G H,aH G hy];exact(hq x y w).2
      ·exact h.elim
     ·exact h.elim
  ·exact h.elim
 ·rename_i op t x J;split at h
  ·rename_i y hy;split at h
   ·rename_i z hz;refine cw.mk _ h λw=>?_
    simp only [execOp,J,aH G hy,OT,Jx hz,OE,OV]
   ·exact h.elim
  ·rename_i n hn;refine cw.mk _ h.2 λw=>?_
   simp only [execOp,J,aH G hn,SV.val,Op.unary,Op.intArith,OT,OE,OV,jV h.1]
  ·exact h.elim
 ·rename_i src dst x J;split at h
  ·rename_i k' c hs hd H;refine cw.mk _ h λw=>?_
   have:IntKind.i64.wrap (c.toNat:Int)=c.toNat:=jV (by have :=c.toNat_lt;unfold bG;omega);simp only [execOp,J,aH G H,SV.val,convert,OT,bC hs,bC hd,OE,Conv.intToInt,OV,this]
  ·rename_i k' n hs hd H;refine cw.mk _ h λw=>?_
   have:IntKind.u8.wrap n=((UInt8.ofNat (n % 256).toNat).toNat:Int):=by
    rw [wrap_u8,PT];omega
   simp only [execOp,J,aH G H,SV.val,convert,OT,bC hs,bC hd,OE,Conv.intToInt,OV,this]
  ·rename_i k' n hs hd H;refine cw.mk _ h.2 λw=>?_
   simp only [execOp,J,aH G H,SV.val,convert,OT,bC hs,bC hd,OE,Conv.intToInt,OV,jV h.1]
  ·rename_i k' c hs hd H;refine cw.mk _ h λw=>?_
   have:IntKind.i32.wrap (c.toNat:Int)=c.toNat:=IntWalk.i32_in _ (by have :=c.toNat_lt;omega);simp only [execOp,J,aH G H,SV.val,convert,OT,bC hs,bC hd,OE,Conv.intToInt,OV,this]
  ·rename_i k' n hs hd H;refine cw.mk _ h.2 λw=>?_
   have:IntKind.i32.wrap n=n:=IntWalk.i32_in _ (by have :=h.1;omega);simp only [execOp,J,aH G H,SV.val,convert,OT,bC hs,bC hd,OE,Conv.intToInt,OV,this]
  ·rename_i k' n hs hd H;refine cw.mk _ h.2 λw=>?_
   simp only [execOp,J,aH G H,SV.val,convert,OT,bC hs,bC hd,OE,Conv.intToString,OV,Fq h.1.1 h.1.2]
  ·exact h.elim
 ·rename_i t x ix J;split at h
  ·rename_i l n Z H hn;refine cw.mk _ h.2 λw=>?_
   simp only [execOp,J,aH G H,aH G hn,SV.val,OT,J3 Z h.1.1 h.1.2,OE,OV]
  ·exact h.elim
 ·rename_i t x lo hi J;have β:∀{q:Option (Option SV)} {n:Option Int},KE (ev e) lo=q->q=n.map (λm=>some (SV.i m))->lo.map a.eval=oR n:=by
   intro q n h1 h2;cases lo<;>cases n<;>simp at h1 h2<;>subst h1<;>simp at h2
   ·rfl
   ·simp [oR,aH G h2,SV.val]
  have γ:∀{q:Option (Option SV)} {n:Option Int},KE (ev e) hi=q->q=n.map (λm=>some (SV.i m))->hi.map a.eval=oR n:=by
   intro q n h1 h2;cases hi<;>cases n<;>simp at h1 h2<;>subst h1<;>simp at h2
   ·rfl
   ·simp [oR,aH G h2,SV.val]
  have hs:∀{l:aD} {n m:Option Int},T.und t=some .string->ev e x=some (.s l)->lo.map a.eval=oR n->hi.map a.eval=oR m->0<=n.getD 0->n.getD 0<=m.getD l.length->m.getD l.length<=l.length->
    k (.s ((l.take (m.getD l.length).toNat).drop (n.getD 0).toNat))->cw T.P o a k:=by
   intro l n m Z H h1 h2 h3 h4 h5 hk;refine cw.mk _ hk λw=>?_
   simp only [execOp,J,aH G H,SV.val,h1,h2,RX,OT,Av Z h3 h4 h5,OE,OV]
  have hv:∀{el:Nat} {val:Value} {n m:Option Int},T.und t=some (.slice el)->ev e x=some (.v val)->lo.map a.eval=oR n->hi.map a.eval=oR m->runPR (slR T el val (n.getD 0) m) k->cw T.P o a k:=by
   intro el val n m Z H h1 h2 hk;unfold slR at hk;split at hk
   ·exact hk.elim
   ·rename_i z sz b ι;cases m with
    | none=>
     obtain⟨ad,len,cap,rfl,h3,h4,h5,hk⟩:=hk;refine cw.mk _ hk λw=>?_
     simp only [execOp,J,aH G H,SV.val,h1,h2,RX,OT,sE (hi:=none) Z ι h3 h4 h5,OE,OV];rfl
    | some m=>
     obtain⟨ad,len,cap,rfl,h3,h4,h5,hk⟩:=hk;refine cw.mk _ hk λw=>?_
     simp only [execOp,J,aH G H,SV.val,h1,h2,RX,OT,sE (hi:=some m) Z ι h3 h4 h5,OE,OV];rfl
  split at h
  ·rename_i l Z H h1 h2;refine hs (n:=none) (m:=none) Z H (β h1 rfl) (γ h2 rfl) (by simp) (by simp) (by simp) ?_;simpa [runPR]using h
  ·rename_i l p Z H h1 h2;refine hs (n:=some p) (m:=none) Z H (β h1 rfl) (γ h2 rfl) h.1.1 h.1.2 (by simp) ?_;simpa using h.2
  ·rename_i l q Z H h1 h2;refine hs (n:=none) (m:=some q) Z H (β h1 rfl) (γ h2 rfl) (by simp) h.1.1 h.1.2 ?_;simpa using h.2
  ·rename_i l p q Z H h1 h2;exact hs (n:=some p) (m:=some q) Z H (β h1 rfl) (γ h2 rfl) h.1.1 h.1.2.1 h.1.2.2 h.2
  ·rename_i el val Z H h1 h2;exact hv (n:=none) (m:=none) Z H (β h1 rfl) (γ h2 rfl) h
  ·rename_i el val p Z H h1 h2;exact hv (n:=some p) (m:=none) Z H (β h1 rfl) (γ h2 rfl) h
  ·rename_i el val q Z H h1 h2;exact hv (n:=none) (m:=some q) Z H (β h1 rfl) (γ h2 rfl) h
  ·rename_i el val p q Z H h1 h2;exact hv (n:=some p) (m:=some q) Z H (β h1 rfl) (γ h2 rfl) h
  ·exact h.elim
 ·rename_i x i J;split at h
  ·rename_i xs H;split at h
   ·rename_i y hy;refine cw.mk _ h λw=>?_
    rw [zY]at hy;have κ:∀(l:List SV) (j:Nat) (z:SV),l[j]?=some z->(SV.aS l)[j]?=some z.val:=by
     intro l
     induction l with
     | nil=>intro j z hz;simp at hz
     | cons p l ih=>intro j z hz;cases j with
      | zero=>simp at hz;subst hz;rfl
      | succ j=>simp at hz;simpa [SV.aS]using ih j z hz
    simp only [execOp,J,aH G H,SV.val,Instr.extract,Rr,κ _ _ _ hy,OT,OE,OV]
   ·exact h.elim
  ·exact h.elim
 ·rename_i x J;split at h
  ·rename_i b off H;refine cw.mk _ h λw=>?_
   simp only [execOp,J,aH G H,SV.val,OV]
  ·rename_i val H;obtain⟨b,off,rfl,h⟩:=h;refine cw.mk _ h λw=>?_
   simp only [execOp,J,aH G H,SV.val,OV]
  ·exact h.elim
 ·rename_i s x f J;split at h
  ·rename_i fs b off hs H;split at h
   ·rename_i fd hf;rw [fc]at hf;split at h
    ·rename_i z sz bb hi;split at h
     ·exact h.elim
     ·rename_i hz;refine cw.mk _ h λw=>?_
      simp only [execOp,J,aH G H,SV.val,OT,Gf hs hf hi (λe=>by rw [e]at hz;cases hz),OE,OV]
    ·exact h.elim
   ·exact h.elim
  ·exact h.elim
 ·rename_i t x ix J;split at h
  ·rename_i el val n Z H hn;split at h
   ·rename_i z sz bb hi;obtain⟨b,off,len,cap,rfl,h0,h1,h⟩:=h;obtain⟨y,hy,ε⟩:=Bv hn;obtain⟨kd,ζ⟩:=D3 ε;refine cw.mk _ h λw=>?_
    simp only [execOp,J,aH G H,aH G hy,ζ,SV.val,OT,FR Z hi h0 h1,OE,OV]
   ·exact h.elim
  ·rename_i len el b off n Z H hn;split at h
   ·rename_i z sz bb hi;obtain⟨y,hy,ε⟩:=Bv hn;obtain⟨kd,ζ⟩:=D3 ε;refine cw.mk _ h.2 λw=>?_
    simp only [execOp,J,aH G H,aH G hy,ζ,SV.val,OT,Fe Z hi h.1.1 h.1.2,OE,OV]
   ·exact h.elim
  ·exact h.elim
 ·rename_i t parts J;split at h
  ·rename_i fs zs s b ps Z hi hp;split at h
   ·rename_i xs δ hb
    ·obtain⟨η,h⟩:=okAllC.get h;have θ:∀f∈fs.toList,∃z s b,T.inf f.type=some (z,s,b):=by
      intro f hf;rw [DR]at δ;have :=PL.1 δ f hf;rw [E6]at this;obtain⟨⟨z,s,b⟩,H⟩:=Re.1 this;exact⟨z,s,b,H⟩
     refine cw.mk _ h λw=>?_
     have α:(parts.map λp=>(p.1,a.eval p.2)).toList=ps.map λp=>(p.1,p.2.val):=by
      rw [PU];exact va G hp
     have hr:=FA (w:=w) Z hi θ α η hb;simp only [execOp,J,OT];rw [show(Array.map (λx=>match x with | (i,x)=>(i,a.eval x)) parts)=parts.map λp=>(p.1,a.eval p.2)from rfl,hr];simp only [OE,OV,SV.val]
   ·exact h.elim
  ·rename_i n el zs s b Z hi hp;split at h
   ·rename_i he;rw [E6]at he;refine cw.mk _ h λw=>?_
    have α:parts.map (λp=>(p.1,a.eval p.2))=#[]:=by
     apply PY.1;rw [PU,va G hp];rfl
    simp only [execOp,J,OT];rw [show(Array.map (λx=>match x with | (i,x)=>(i,a.eval x)) parts)=parts.map λp=>(p.1,a.eval p.2)from rfl,α,Du Z hi he];simp only [OE,OV,SV.val]
   ·exact h.elim
  ·rename_i n el zs s b p ps Z hi hp;split at h
   ·rename_i z bb he;have he:=oh he;split at h
    ·rename_i xs hb;obtain⟨η,h⟩:=okAllC.get h;refine cw.mk _ h λw=>?_
     have α:(parts.map λp=>(p.1,a.eval p.2)).toList=(p::ps).map λp=>(p.1,p.2.val):=by
      rw [PU];exact va G hp
     have hr:=BA (w:=w) Z hi he α η hb;simp only [execOp,J,OT];rw [show(Array.map (λx=>match x with | (i,x)=>(i,a.eval x)) parts)=parts.map λp=>(p.1,a.eval p.2)from rfl,hr];simp only [OE,OV,SV.val]
    ·exact h.elim
   ·exact h.elim
  ·exact h.elim
 ·rename_i fn first captured J;split at h
  ·rename_i f ys h1 h2;refine cw.mk _ h λw=>?_
   have e1:first.map a.eval=#[]:=by
    apply PY.1;rw [PU,iA G h1]
   have e2:captured.map a.eval=(SV.aS ys).toArray:=by
    apply PY.1;rw [PU,iA G h2]
   simp only [execOp,J,OT,Instr.makeFunc,e1,e2,OE,OV,SV.val]
  ·exact h.elim
 ·rename_i c J;split at h
  ·rename_i hc;have key:∀{t:Nat} {y:SV} {v:Value},ni c.argTypes.toList 0=some t->Oa e (ni c.args.toList 0)=some y->(∀ty w,(Builtin.len_ #[t] ty #[y.val]).run T.P w= .ok v w)->
     ∀w,(execOp a.eval o).run T.P w= .ok (.value v) w:=by
    intro t y v h1 h2 h3 w;rw [fc]at h1 h2;obtain⟨ar,μ,ν⟩:∃ar,c.args[0]?=some ar/\ev e ar=some y:=by
     cases hq:c.args[0]? with
     | none=>rw [hq]at h2;cases h2
     | some ar=>rw [hq]at h2;exact⟨ar,rfl,h2⟩
    have h4:∀ty,(Builtin.len_ c.argTypes ty (c.args.map a.eval)).run T.P w= .ok v w:=by
     intro ty;rw [<-h3 ty w];have e1:(c.args.map a.eval)[0]?=some y.val:=by rw [Array.getElem?_map,μ];simp [aH G ν]
     simp only [Builtin.len_,h1,e1];rfl
    simp only [execOp,J,resolve,hc,OT,OV,OE,invoke,builtin,h4]
   split at h
   ·rename_i t l h1 h2;split at h
    ·rename_i Z;exact cw.mk (.i _) h (key h1 h2 λty w=>Hs Z)
    ·exact h.elim
   ·rename_i t val h1 h2;split at h
    ·rename_i el Z;obtain⟨ad,n,cap,rfl,h⟩:=h;exact cw.mk (.i _) h (key h1 h2 λty w=>Hk Z)
    ·exact h.elim
   ·exact h.elim
  ·rename_i hc;split at h
   ·rename_i p q h2;have e2:c.args.map a.eval=#[.int .i64 p,.int .i64 q]:=by apply PY.1;rw [PU,iA G h2]
    refine cw.mk _ h λw=>?_
    simp only [execOp,J,resolve,hc,OT,OV,OE,invoke,builtin,e2,Kv,SV.val]
   ·rename_i p q h2;have e2:c.args.map a.eval=#[.string (ak p),.string (ak q)]:=by apply PY.1;rw [PU,iA G h2]
    refine cw.mk _ h λw=>?_
    simp only [execOp,J,resolve,hc,OT,OV,OE,invoke,builtin,e2,IV,SV.val]
   ·exact h.elim
  ·rename_i hc;split at h
   ·rename_i p q h2;have e2:c.args.map a.eval=#[.int .i64 p,.int .i64 q]:=by apply PY.1;rw [PU,iA G h2]
    refine cw.mk _ h λw=>?_
    simp only [execOp,J,resolve,hc,OT,OV,OE,invoke,builtin,e2,JY,SV.val]
   ·rename_i p q h2;have e2:c.args.map a.eval=#[.string (ak p),.string (ak q)]:=by apply PY.1;rw [PU,iA G h2]
    refine cw.mk _ h λw=>?_
    simp only [execOp,J,resolve,hc,OT,OV,OE,invoke,builtin,e2,IA,SV.val]
   ·exact h.elim
  ·exact h.elim
 ·exact h.elim
def cW.pure {T:ef}{o:Oper}{a:Act}{w:World}{k:SV->Sb}(h:cw T.P o a λy=>k y w):cW T.P o a w k:=by
 obtain⟨y,G,hr⟩:=h;exact cW.value (hr w) rfl G
def vZ {T:ef}{o:Oper}{a:Act}{w:World}{k:SV->Sb}{t b off:Nat}{x:Operand}(Z:o.op= .load t x)(hx:a.eval x= .pointer (some ⟨b,off,none⟩))(h:uZ T t b off w k):cW T.P o a w k:=by
 unfold uZ loadR at h;split at h
 ·rename_i G;obtain⟨y,H,h⟩:=h;refine cW.value (w':=w) ?_ rfl h;simp only [execOp,Z,hx,OT,qX G H,OE,OV]
 ··split at h
   ·rename_i ks z n bb G hk hi;split at h
    ·rename_i J;have J:=lf J;rw [m8]at J;obtain⟨xs,hl,H,h⟩:=ExL.get h;refine cW.value (w':=w) ?_ rfl h;simp only [execOp,Z,hx,SV.val,OT,ji (cs:=SV.aS xs) (jg G w) hi (by rw [ic,hl,J]) (λj hj=>H.get j (by omega)),OE,OV]
    ·exact h.elim
   ·rename_i z n bb G hk hi;obtain⟨cs,hl,H,h⟩:=h;refine cW.value (w':=w) ?_ rfl h;simp only [execOp,Z,hx,SV.val,OT,ji (jg G w) hi hl H,OE,OV]
   ·exact h.elim
def rX {T:ef}{N:Nat}{e:Env}{o:Oper}{a:Act}{w:World}{k:SV->Sb}{t b off:Nat}{x y:Operand}{z:SV}(G:aF N e a)(Z:o.op= .store t x y)(hx:a.eval x= .pointer (some ⟨b,off,none⟩))(hy:ev e y=some z)(h:rN T t b off z w k):cW T.P o a w k:=by
 have many:∀{n H:Nat} {J:Value} {cs:List Value},T.inf t=some (J,n,H)->z.val= .agg cs.toArray->yW w b off n cs k->cW T.P o a w k:=by
  intro n H J cs hi hz h;obtain⟨⟨h1,h2,h3⟩,h⟩:=h;refine cW.skip (w':=_) ?_ (h _ rfl);simp only [execOp,Z,hx,aH G hy,hz,OT];rw [Cj hi h1 h2 h3];simp only [OE,OV]
 unfold rN storeR at h;split at h
 ·rename_i hs;split at h
  ·rename_i J H hi;have hi:=oh hi;obtain⟨hv,⟨⟨u,hu⟩,hf⟩,h⟩:=oneOk.get h;refine cW.skip (w':=_) ?_ (h _ rfl);simp only [execOp,Z,hx,aH G hy,OT,Cz hi hv hu hf,OE,OV]
  ·exact h.elim
 ·split at h
  ·rename_i hi;exact many hi rfl h
  ·rename_i hi;exact many hi rfl h
  ·rename_i hi;obtain⟨cs,rfl,h⟩:=h;exact many hi rfl h
  ·exact h.elim
def rY {T:ef}{N:Nat}{e:Env}{o:Oper}{a:Act}{w:World}{k:SV->Sb}{t:Nat}{m x y:Operand}(G:aF N e a)
  (Z:∀(ρ:Operand->Value) (w w':World),(Instr.mapUpdate t (ρ m) (ρ x) (ρ y)).run T.P w= .ok () w'->(execOp ρ o).run T.P w= .ok .skip w') (h:runOR T (mapupR T e t m x y) w k):cW T.P o a w k:=by
 unfold mapupR at h;split at h
 ·rename_i kt et val q z hm hv hq hz;split at h
  ·rename_i d hd;split at h
   ·rename_i J;obtain⟨r,mm,rfl,H,h⟩:=h;obtain⟨w',h1,h2,h3⟩:=wB (z:=z.val) hm (mN hd J).1 (mN hd J).2 H;refine cW.skip (w':=w') (Z _ _ _ ?_) (h w' h2 h3);rw [aH G hv,aH G hq,aH G hz];exact h1
   ·exact h.elim
  ·exact h.elim
 ·exact h.elim
def pt {T:ef}{N:Nat}{e:Env}{o:Oper}{a:Act}{w:World}{k:SV->Sb}(G:aF N e a)(h:A1 T e o w k):cW T.P o a w k:=by
 unfold A1 opR at h;split at h
 ·rename_i src dst x H;split at h
  ·rename_i el l hs hd hx;split at h
   ·rename_i he;obtain⟨cap,w',J,h2,h3⟩:=zm (w:=w) (l:=l) hs hd he;refine cW.value (w':=w') ?_ rfl (h _ cap w' rfl h2 h3);simp only [execOp,H,aH G hx,SV.val,OT,J,OE,OV]
   ·exact h.elim
  ·rename_i el val hs hd hx;split at h
   ·rename_i he;obtain⟨b,off,n,c,l,rfl,J,h2,h⟩:=h;refine cW.value (w':=w) ?_ rfl h;simp only [execOp,H,aH G hx,SV.val,OT,run_convert_bytes_string (P:=T.P) w src dst el _ _ _ (T.und_ok _ _ hs) (T.und_ok _ _ he) (T.und_ok _ _ hd),xj J h2,OE,OV]
   ·exact h.elim
  ·exact cW.pure (pure_run G h)
 ·rename_i t x H;split at h
  ·rename_i b off hx;exact vZ H (aH G hx) h
  ·rename_i val hx;obtain⟨b,off,rfl,h⟩:=h;exact vZ H (aH G hx) h
  ·exact h.elim
 ·rename_i t x y H;split at h
  ·rename_i b off z hx hy;exact rX G H (aH G hx) hy h
  ·rename_i val z hx hy;obtain⟨b,off,rfl,h⟩:=h;exact rX G H (aH G hx) hy h
  ·exact h.elim
 ·rename_i el H;split at h
  ·rename_i z s b hi;simp only [runOR,ib,mA]at h;refine cW.value (w':=_) ?_ rfl (h _ _ rfl rfl);simp only [execOp,H,OT,Fv hi (.tuple #[]),OE,OV,SV.val]
  ·exact h.elim
 ·rename_i t H;refine cW.value (w':=_) ?_ rfl (h _ _ rfl rfl);simp only [execOp,H,RX,OT,Bq,OE,OV,SV.val]
 ·rename_i t l c H;split at h
  ·rename_i el n m ht hl hc;split at h
   ·rename_i z s hi;have hi:=oh hi;split at h
    ·rename_i α δ;obtain⟨⟨h0,rfl,J⟩,h⟩:=h;refine cW.value (w':=_) ?_ rfl (h _ _ rfl rfl);simp only [execOp,H,aH G hl,aH G hc,SV.val,OT,xn ht hi α (Rt δ) h0 J,OE,OV]
    ·exact h.elim
   ·exact h.elim
  ·exact h.elim
 ·rename_i t m x y H;exact rY G (λρ w r h=>by simp only [execOp,H,OT,h,OE,OV]) h
 ·rename_i t m x y H;exact rY G (λρ w r h=>by simp only [execOp,H,OT,h,OE,OV]) h
 ·rename_i t m x H;split at h
  ·rename_i kt et val q hm hv hq;split at h
   ·rename_i d i hd hi;split at h
    ·rename_i hk;obtain⟨r,mm,rfl,Z,h⟩:=h;obtain⟨v0,s,w',J,h2,h3,h4⟩:=yr hm (mN hd hk).1 hi (mN hd hk).2 Z;refine cW.value (w':=w') ?_ rfl (h v0 s w' h2 h3 h4);simp only [execOp,H,aH G hv,aH G hq,OT];rw [show(SV.v (.map (some r))).val= .map (some r)from rfl,J];rfl
    ·exact h.elim
   ·exact h.elim
  ·exact h.elim
 ·rename_i t m s y H;split at h
  ·rename_i val s y hv hs hy;obtain⟨r,d,mm,q,rfl,Z,he,h⟩:=h;obtain⟨w',J,h2,h3⟩:=vW (t:=t) (z:=y.val) Z he;refine cW.skip (w':=w') ?_ (h w' h2 h3);simp only [execOp,H,aH G hv,aH G hs,aH G hy,OT];rw [show(SV.v (.map (some r))).val= .map (some r)from rfl,show(SV.i s).val= .int .i64 s from rfl,J];rfl
  ·exact h.elim
 ·rename_i t m x ok H;split at h
  ·rename_i kt et val q hm hv hq;split at h
   ·rename_i d z sb hd hi;split at h
    ·rename_i hk;obtain⟨r,mm,rfl,Z,y,g,hg,h⟩:=h;have hr:=CA (ok:=ok) hm (mN hd hk).1 hi (mN hd hk).2 Z hg;refine cW.value (w':=w) ?_ rfl h;simp only [execOp,H,aH G hv,aH G hq,OT];rw [show(SV.v (.map (some r))).val= .map (some r)from rfl,hr];cases ok<;>simp only [OE,OV]<;>rfl
    ·exact h.elim
   ·exact h.elim
  ·exact h.elim
 ·rename_i el x H;split at h
  ·rename_i y hy;split at h
   ·rename_i val hv _;have hv:=HF hv;subst hv;obtain⟨cs,rfl,h⟩:=h;refine cW.value (w':=_) ?_ rfl (h _ _ rfl rfl);simp only [execOp,H,aH G hy,OT,Ao,OE,OV,SV.val];rfl
   ·rename_i val hv _;have hv:=HF hv;subst hv;obtain⟨J,h⟩:=h;refine cW.value (w':=_) ?_ rfl (h _ _ rfl rfl);simp only [execOp,H,aH G hy,OT,Ao,OE,OV,SV.val,qF J]
   ·simp only [runOR,ib]at h;obtain⟨hc,h⟩:=okC.get h;refine cW.value (w':=_) ?_ rfl (h _ _ rfl rfl);simp only [execOp,H,aH G hy,OT,Ao,OE,OV,SV.val,hc]
  ·exact h.elim
 ·rename_i t len parts H;split at h
  ·rename_i el ps ht hp;split at h
   ·rename_i z sz b hi;split at h
    ·rename_i cs ζ η θ hb
     ·rw [E5,mA]at hb;rw [m8,mA]at ζ;simp only [runOR,ib]at h;obtain⟨ι,h⟩:=okAllC.get h;refine cW.value (w':=_) ?_ rfl (h _ _ rfl rfl);have β:(parts.map λp=>(p.1,a.eval p.2)).toList=ps.map λp=>(p.1,p.2.val):=by
       rw [PU];exact va G hp
      have hr:=Dg (w:=w) ht hi (by simpa using lf ζ) (Rt η) (Rt θ) β ι hb;simp only [execOp,H,OT];rw [show(Array.map (λx=>match x with | (i,x)=>(i,a.eval x)) parts)=parts.map λp=>(p.1,a.eval p.2)from rfl,hr];simp only [OE,OV,SV.val]
    ·exact h.elim
   ·exact h.elim
  ·exact h.elim
 ·rename_i c H;split at h
  ·rename_i hc;split at h
   ·rename_i t t' s x J h2;split at h
    ·rename_i el ε ht;have ε:=lf ε;subst ε
     ·split at h
      ·rename_i z sz by_ hi;split at h
       ·rename_i α δ;rw [m8,mA]at α;have e1:c.argTypes=#[t,t]:=PY.1 J;have e2:c.args.map a.eval=#[s,x]:=by apply PY.1;rw [PU,iA G h2]
        obtain⟨v,w',hr,hk⟩:=Dx (ty:=o.type) ht hi (by simpa using lf α) (Rt δ) h;refine cW.value (w':=w') ?_ rfl hk;simp only [execOp,H,resolve,hc,OT,OV,OE,invoke,builtin,e1,e2,hr,SV.val]
       ·exact h.elim
      ·exact h.elim
    ·exact h.elim
   ·exact h.elim
  ·rename_i hc;split at h
   ·rename_i t s J h2;split at h
    ·rename_i el ht;split at h
     ·rename_i z sb hi;have hi:=oh hi;split at h
      ·rename_i hz;obtain⟨ad,n,cap,rfl,h⟩:=h;have e1:c.argTypes=#[t]:=PY.1 J;have e2:c.args.map a.eval=#[.slice ad n cap]:=by apply PY.1;rw [PU,iA G h2]
       rcases h with⟨rfl,h⟩ | ⟨b,off,rfl,γ,h⟩
       ·refine cW.value (w':=w) ?_ rfl h;simp only [execOp,H,resolve,hc,OT,OV,OE,invoke,builtin,e1,e2,CP ht,SV.val,SV.aS]
       ·refine cW.value (w':=_) ?_ rfl (h _ rfl);simp only [execOp,H,resolve,hc,OT,OV,OE,invoke,builtin,e1,e2,Fh ht hi hz γ,SV.val,SV.aS]
      ·exact h.elim
     ·exact h.elim
    ·exact h.elim
   ·exact h.elim
  ·rename_i t hc;split at h
   ·rename_i val xs J h2;simp only [runOR,ib]at h;obtain⟨f,ca,hv,hf,h⟩:=h;exact GQ G H hc J hv hf h2 h
   ·exact h.elim
  ·rename_i f hc;split at h
   ·rename_i xs hf hx;simp only [runOR,ib]at h;exact E9 G H hc hf hx h
   ·exact h.elim
  ·exact cW.pure (pure_run G h)
 ·exact cW.pure (pure_run G h)
@[reducible] def slotOf (ops:Array Oper) (j:Nat):Option Nat:=match ni (nN ops) j with
 | some o=>(Gk o)
 | none=>none
def F6 (ops:Array Oper)(j:Nat):slotOf ops j=(ops[j]?).bind (·.dst):=by
 unfold slotOf;rw [fc];cases ops[j]?<;>rfl
@[reducible] def bindDst (d:Option Nat) (y:SV) (e:Env):Env:=match d with
 | some d=>(d,y)::e
 | none=>e
def bindK:Option Nat->SV->Env->(Env->Prop)->Prop
 | some d,y,e,k=>k ((d,y)::e)
 | none,_,e,k=>k e
def cC (d:Option Nat)(y:SV)(e:Env)(k:Env->Prop):bindK d y e k=k (bindDst d y e):=by cases d<;>rfl
@[reducible] def beqR (a b:Nat):Bool:=match Nat.beq a b with
 | true=>true
 | false=>false
def Jg (a b:Nat):beqR a b=Nat.beq a b:=by unfold beqR;cases Nat.beq a b<;>rfl
def boolK:Bool->Prop->Prop->Prop
 | true,a,_=>a
 | false,_,b=>b
inductive GS where
 | run | skip | ifT (g:Nat) (x:Bool) | ifF (g:Nat) (x:Bool) | bad
@[reducible] def gst (ops:Array Oper) (e:Env):Option (Nat×Bool)->GS
 | none=> .run
 | some (j,want)=>match slotOf ops j with
  | none=> .bad
  | some g=>match look e g,want with
   | some .tt,true=> .run
   | some .ff,false=> .run
   | some .tt,false=> .skip
   | some .ff,true=> .skip
   | some .un,_=> .skip
   | some (.b x),true=> .ifT g x
   | some (.b x),false=> .ifF g x
   | _,_=> .bad
def guardG:GS->Env->(Env->Prop)->(Env->Prop)->Prop
 | .run,e,run,_=>run e
 | .skip,e,_,G=>G e
 | .ifT g x,e,run,G=>(x=true->run ((g,.tt)::e))/\(x=false->G ((g,.ff)::e))
 | .ifF g x,e,run,G=>(x=false->run ((g,.ff)::e))/\(x=true->G ((g,.tt)::e))
 | .bad,_,_,_=>False
def vcOps (T:ef)(all:Array Oper)(K:Env->Sb):List Oper->Env->Sb
 | [],e,w=>K e w
 | o::r,e,w=>guardG (gst all e (Od o)) e (λe=>A1 T e o w λy w'=>bindK (Gk o) y e λG=>vcOps T all K r G w') (λe=>bindK (Gk o) .un e λG=>vcOps T all K r G w)
def okOps (N:Nat)(l:List Oper):Bool:=l.all λo=>match o.dst with | some d=>decide (d< N) | none=>true
@[reducible] def dsts:List Oper->List Nat
 | []=>[]
 | o::l=>match (Gk o)with
  | some d=>d::dsts l
  | none=>dsts l
def DI:∀l:List Oper,dsts l=l.filterMap (·.dst)
 | []=>rfl
 | ⟨d,_,_,_,_,_⟩::l=>by
  rw [dsts,List.filterMap_cons,DI l];cases d<;>rfl
def dV (ws:List Nat)(a a':Act):Prop:=∀t,t∉ws->a'.tmps.getD t undef=a.tmps.getD t undef
def dV.refl (ws:List Nat)(a:Act):dV ws a a:=λ _ _=>rfl
def dV.trans {ws:List Nat}{a b c:Act}(h:dV ws a b)(k:dV ws b c):dV ws a c:=λt G=>(k t G).trans (h t G)
def dV.mono {ws G:List Nat}{a b:Act}(h:dV ws a b)(H:∀t,t∈ws->t∈G):dV G a b:=λt J=>h t λZ=>J (H t Z)
def dV.put (a:Act)(d:Option Nat)(v:Value)(ws:List Nat)(h:∀x,d=some x->x∈ws):dV ws a (a.put d v):=by
 intro t H;cases d with
 | none=>rfl
 | some d=>
  have G:d≠t:=λe=>H (e▸h d rfl)
  show(a.tmps.setIfInBounds d v).getD t undef=_;simp only [Array.getD,Array.size_setIfInBounds];split
  ·exact Array.getElem_setIfInBounds_ne _ G
  ·rfl
def aF.bind {N:Nat}{e:Env}{a:Act}(h:aF N e a){d:Option Nat}(hd:(match d with | some d=>decide (d< N) | none=>true)=true){x:SV}:aF N (bindDst d x e) (a.put d x.val):=by
 cases d with
 | none=>exact h
 | some d=>exact h.put (by simpa using hd) rfl
def aF.again {N:Nat}{e:Env}{a:Act}(h:aF N e a){g:Nat}{x y:SV}(H:look e g=some x)(J:x.val=y.val):aF N ((g,y)::e) a:=by
 refine⟨h.1,λt z G=>?_⟩;simp only [look]at G;split at G
 ·rename_i heq;have:g=t:=by simpa using heq
  subst this;cases G;rw [h.2 _ _ H,J]
 ·exact h.2 t z G
def wanted_of {N:Nat}{e:Env}{a:Act}(J:aF N e a){all:Array Oper}{o:Oper}{j:Nat}{want:Bool}{g:Nat}{x:SV}(hg:o.guard=some (j,want))(hs:slotOf all j=some g)(hx:look e g=some x):
  Region.wanted o (yielded all a.tmps)=(match x.val with | .bool b=>b==want | _=>false):=by
 have H:=J.2 _ _ hx;rw [F6]at hs;simp only [Region.wanted,hg,yielded,hs,Option.bind_some];simp only [Array.getD]at H;split at H
 ·rename_i G;have Z:a.tmps[g]?=some x.val:=by rw [Q8 G];exact PA some H
  rw [Z];cases x.val<;>first | rfl | simp
 ·rename_i G;have:a.tmps[g]?=none:=by simp at G|-;omega
  rw [this,<-H];rfl
def ru {T:ef}{N:Nat}{all:Array Oper}{K:Env->Sb}{Q:Exit->Act->Sb}:∀(l:List Oper) (e:Env) (a:Act) (w:World),aF N e a->okOps N l=true->vcOps T all K l e w->
  (∀e' a' w',K e' w'->aF N e' a'->a'.defers=a.defers->dV (dsts l) a a'->Q .normal a' w')->wpList T.P all Q l a w
 | [],e,a,w,G,β,h,hQ=>hQ e a w h G rfl (dV.refl _ _)
 | o::r,e,a,w,G,β,h,hQ=>by
  simp only [okOps,PQ,OA]at β;obtain⟨hd,α⟩:=β;have ζ:∀x,o.dst=some x->x∈dsts (o::r):=by
   intro x H;simp [dsts,H]
  have γ:∀t,t∈dsts r->t∈dsts (o::r):=by
   intro t ht;simp only [dsts,List.filterMap_cons]at*;split<;>simp_all
  have δ:∀(v:Value) e' a' w',K e' w'->aF N e' a'->a'.defers=(a.put o.dst v).defers->dV (dsts r) (a.put o.dst v) a'->Q .normal a' w':=by
   intro v e' a' w' hk ε η θ;refine hQ e' a' w' hk ε (η.trans ?_) ((dV.put a o.dst v _ ζ).trans (θ.mono γ));cases o.dst<;>rfl
  have run:∀{e1:Env},aF N e1 a->(A1 T e1 o w λy w'=>vcOps T all K r (bindDst o.dst y e1) w')->Region.wanted o (yielded all a.tmps)=true->wpList T.P all Q (o::r) a w:=by
   intro e1 J h1 hw;unfold wpList;rw [O' hw];left;exact pt J h1 _ _ λy w' hk=>ru r _ _ _ (J.bind hd) α hk (δ y.val)
  have Z:∀{e1:Env},aF N e1 a->vcOps T all K r (bindDst o.dst .un e1) w->Region.wanted o (yielded all a.tmps)=false->wpList T.P all Q (o::r) a w:=by
   intro e1 J h1 hw;unfold wpList;rw [OP (by rw [hw];simp)];exact ru r _ _ _ (J.bind (x:= .un) hd) α h1 (δ undef)
  unfold vcOps at h;simp only [cC]at h;unfold gst at h;split at h
  ·rename_i hg;exact run G h (by simp [Region.wanted,hg])
  ·rename_i j want hg;split at h
   ·exact h.elim
   ·rename_i g hs;split at h
    ·rename_i H;exact run G h (by rw [wanted_of G hg hs H];rfl)
    ·rename_i H;exact run G h (by rw [wanted_of G hg hs H];rfl)
    ·rename_i H;exact Z G h (by rw [wanted_of G hg hs H];rfl)
    ·rename_i H;exact Z G h (by rw [wanted_of G hg hs H];rfl)
    ·rename_i H;exact Z G h (by rw [wanted_of G hg hs H];rfl)
    ·rename_i x H;cases x with
     | true=>exact run (G.again (y:= .tt) H rfl) (h.1 rfl) (by rw [wanted_of G hg hs H];rfl)
     | false=>exact Z (G.again (y:= .ff) H rfl) (h.2 rfl) (by rw [wanted_of G hg hs H];rfl)
    ·rename_i x H;cases x with
     | false=>exact run (G.again (y:= .ff) H rfl) (h.1 rfl) (by rw [wanted_of G hg hs H];rfl)
     | true=>exact Z (G.again (y:= .tt) H rfl) (h.2 rfl) (by rw [wanted_of G hg hs H];rfl)
    ·exact h.elim
@[reducible] def L6 (T:ef) (o:Oper):Bool:=match (KW o)with
 | .load .. =>false
 | .store .. =>false
 | .alloc .. =>false
 | .box .. =>false
 | .buildSlice .. =>false
 | .makeMap .. =>false
 | .makeSlice .. =>false
 | .mapUpdate .. =>false
 | .insert .. =>false
 | .lookup .. =>false
 | .mapEntry .. =>false
 | .entryStore .. =>false
 | .convert src dst _=>(match T.U src,T.U dst with
  | some .string,some (.slice _)=>false
  | some (.slice _),some .string=>false
  | _,_=>true)
 | .call c=>(match NU c with
  | .builtin .len=>true
  | .builtin .max=>true
  | .builtin .min=>true
  | _=>false)
 | _=>true
@[reducible] def isLoad (o:Oper):Bool:=match (KW o)with
 | .load .. =>true
 | _=>false
def runLoadH:LR->(Sb)->Nat->Nat->(SV->Prop)->Prop
 | .one kd,S,b,off,k=>NJ kd λy=>(∀w',S w'->w'.cell? ⟨b,off,none⟩=some y.val)/\k y
 | .agg ks,S,b,off,k=>ExL ks λxs=>(∀w',S w'->CellsAt w' b off xs)/\k (.ag xs)
 | .list n,S,b,off,k=>∃cs:List Value,cs.length=n/\(∀w',S w'->∀j,j< n->w'.cell? ⟨b,off+j,none⟩=cs[j]?)/\k (.agl cs)
 | .bad,_,_,_,_=>False
def rh (T:ef)(t b off:Nat)(S:Sb)(k:SV->Prop):Prop:=runLoadH (loadR T t) S b off k
inductive HR where
 | at_ (r:LR) (b off:Nat) | val (r:LR) (v:Value) | bad
@[reducible] def hR (T:ef) (e:Env):Op->HR
 | .load t x=>match ev e x with
  | some (.a b off)=> .at_ (loadR T t) b off
  | some (.v val)=> .val (loadR T t) val
  | _=> .bad
 | _=> .bad
def runH:HR->(Sb)->(SV->Prop)->Prop
 | .at_ r b off,S,k=>runLoadH r S b off k
 | .val r v,S,k=>∃b off,v= .pointer (some ⟨b,off,none⟩)/\runLoadH r S b off k
 | .bad,_,_=>False
def tW (T:ef)(e:Env)(o:Oper)(S:Sb)(k:SV->Prop):Prop:=runH (hR T e (KW o)) S k
def n8 (ops:Array Oper)(e:Env)(o:Oper)(run G:Env->Prop):Prop:=guardG (gst ops e (Od o)) e run G
def Kb (X:Nat->Prop):List Nat->Prop
 | []=>True
 | [i]=>X i
 | i::r=>X i/\Kb X r
def Kb.get {X:Nat->Prop}:∀{r:List Nat},Kb X r->∀i∈r,X i
 | [],_,i,hi=>by cases hi
 | [j],h,i,hi=>by
  have:i=j:=by simpa using hi
  subst this;exact h
 | j::G::r,h,i,hi=>by
  cases hi with
  | head=>exact h.1
  | tail _ hi=>exact Kb.get (r:=G::r) h.2 i hi
def eP {N:Nat}{ops:Array Oper}{e:Env}{a:Act}{o:Oper}{run α:Env->Prop}{G:Prop}(H:aF N e a)(h:n8 ops e o run α)
  (hr:∀e',aF N e' a->run e'->Region.wanted o (yielded ops a.tmps)=true->G) (hs:∀e',aF N e' a->α e'->Region.wanted o (yielded ops a.tmps)=false->G):G:=by
 unfold n8 gst at h;split at h
 ·rename_i hg;exact hr e H h (by simp [Region.wanted,hg])
 ·rename_i j want hg;split at h
  ·exact h.elim
  ·rename_i g J;split at h
   ·rename_i Z;exact hr e H h (by rw [wanted_of H hg J Z];rfl)
   ·rename_i Z;exact hr e H h (by rw [wanted_of H hg J Z];rfl)
   ·rename_i Z;exact hs e H h (by rw [wanted_of H hg J Z];rfl)
   ·rename_i Z;exact hs e H h (by rw [wanted_of H hg J Z];rfl)
   ·rename_i Z;exact hs e H h (by rw [wanted_of H hg J Z];rfl)
   ·rename_i x Z;cases x with
    | true=>exact hr _ (H.again (y:= .tt) Z rfl) (h.1 rfl) (by rw [wanted_of H hg J Z];rfl)
    | false=>exact hs _ (H.again (y:= .ff) Z rfl) (h.2 rfl) (by rw [wanted_of H hg J Z];rfl)
   ·rename_i x Z;cases x with
    | false=>exact hr _ (H.again (y:= .ff) Z rfl) (h.1 rfl) (by rw [wanted_of H hg J Z];rfl)
    | true=>exact hs _ (H.again (y:= .tt) Z rfl) (h.2 rfl) (by rw [wanted_of H hg J Z];rfl)
   ·exact h.elim
def sA {T:ef}{a:Act}{o:Oper}{S:Sb}{k:SV->Prop}{t b off:Nat}{x:Operand}(Z:o.op= .load t x)(hx:a.eval x= .pointer (some ⟨b,off,none⟩))(h:rh T t b off S k):
  ∃y,k y/\∀w,S w->(execOp a.eval o).run T.P w= .ok (.value y.val) w:=by
 unfold rh loadR at h;split at h
 ·rename_i G;obtain⟨y,H,h⟩:=h;refine⟨_,h,λw hw=>?_⟩;simp only [execOp,Z,hx,OT,qX G (H w hw),OE,OV]
 ··split at h
   ·rename_i ks z n bb G hk hi;split at h
    ·rename_i J;have J:=lf J;rw [m8]at J;obtain⟨xs,hl,H,h⟩:=ExL.get h;refine⟨_,h,λw hw=>?_⟩;simp only [execOp,Z,hx,SV.val,OT,ji (cs:=SV.aS xs) (jg G w) hi (by rw [ic,hl,J]) (λj hj=>(H w hw).get j (by omega)),OE,OV]
    ·exact h.elim
   ·rename_i z n bb G hk hi;obtain⟨cs,hl,H,h⟩:=h;refine⟨_,h,λw hw=>?_⟩;simp only [execOp,Z,hx,SV.val,OT,ji (jg G w) hi hl (H w hw),OE,OV]
   ·exact h.elim
def xS {T:ef}{N:Nat}{e:Env}{a:Act}{o:Oper}{S:Sb}{k:SV->Prop}(G:aF N e a)(h:tW T e o S k):
  ∃y,k y/\∀w,S w->(execOp a.eval o).run T.P w= .ok (.value y.val) w:=by
 unfold tW hR at h;split at h
 ·rename_i t x J;split at h
  ·rename_i b off H;exact sA J (aH G H) h
  ·rename_i val H;obtain⟨b,off,rfl,h⟩:=h;exact sA J (aH G H) h
  ·exact h.elim
 ·exact h.elim
def kO (ops:Array Oper)(j:Nat):Bool:=match ops[j]? with
 | none=>true
 | some G=>(List.range ops.size).any λi=>(match ops[i]? with | some o=>isLoad o | none=>false)&&G.after.toList.all λe=> !(Region.binds .any e)|| !(e.on==i)
def Bc {ops:Array Oper}{i j:Nat}{G H:Oper}(hi:ops[i]?=some G)(J:ops[j]?=some H)(Z:isLoad G=true)(hn:∀e∈H.after,Region.binds .any e=true->e.on≠i):kO ops j=true:=by
 unfold kO;simp only [J];refine QH.2 ⟨i,PH.2 (Ph.1 hi).1,?_⟩;simp only [hi,Z,Qa];refine PL.2 λe he=>?_
 have :=hn e (by simpa using he);cases hb:Region.binds .any e with
 | false=>rfl
 | true=>simp [this hb]
def eh (P:Program)(ops:Array Oper)(lt:Nat->Bool)(Q:Exit->Act->Sb)(S:Sb):Nat->Array Bool->Act->Sb
 | 0,G,a,w=>Region.ready .any ops G=[]/\Q .normal a w
 | fuel+1,G,a,w=>
  (Region.ready .any ops G=[]->Q .normal a w)/\
  ∀i∈Region.ready .any ops G,wpOp P ops Q i (λa' w'=>(if lt i=true then w'=w else kO ops i=true->S w')/\eh P ops lt Q S fuel (G.setIfInBounds i true) a' w') a w
def vU {P:Program}{ops:Array Oper}{lt:Nat->Bool}{Q:Exit->Act->Sb}{S:Sb}:∀(fuel:Nat) (G:Array Bool) (a:Act) (w:World),eh P ops lt Q S fuel G a w->wpAny P .any ops Q fuel G a w
 | 0,_,_,_,h=>h
 | fuel+1,_,_,_,h=>⟨h.1,λi hi=>wpOp_mono (λa' w' H=>vU fuel _ a' w' H.2) (h.2 i hi)⟩
def yJ {P:Program}{ops:Array Oper}{lt:Nat->Bool}{Q:Exit->Act->Sb}{S:Sb}{i:Nat}{oi:Oper}{v:Value}(hi:ops[i]?=some oi)(ζ:lt i=true)(γ:∀(j:Nat) (o:Oper) cs b,ops[j]?=some o->o.op≠ .select cs b)
  (hQ:∀c a w,Q (.panic c) (a.put oi.dst v) w->Q (.panic c) a w):
  ∀(fuel:Nat) (G:Array Bool) (a:Act) (w:World),
   (∀j oj,ops[j]?=some oj->j≠i->G.getD j true=false->(∀e∈oj.after,Region.binds .any e=true->e.on≠i)->oi.apart ops oj=true)->
   i∈Region.ready .any ops G->YieldsIf P ops (λw=>isLoad oi=true->S w) oi v a->(isLoad oi=true->S w)->
   eh P ops lt Q S fuel (G.setIfInBounds i true) (a.put oi.dst v) w->eh P ops lt Q S (fuel+1) G a w:=by
 intro fuel
 induction fuel with
 | zero=>
  intro G a w _ hr hy hS H;refine⟨λh=>(by rw [h]at hr;cases hr),λj hj=>?_⟩;by_cases J:j=i
  ·subst J;exact hy.wpOp hi hS ⟨by rw [O' ζ],H⟩
  ·have :=ready_mono hj J;rw [H.1]at this;cases this
 | succ fuel ih=>
  intro G a w Z hr hy hS H;refine⟨λh=>(by rw [h]at hr;cases hr),λj hj=>?_⟩;by_cases J:j=i
  ·subst J;exact hy.wpOp hi hS ⟨by rw [O' ζ],H⟩
  ·have h1:=H.2 j (ready_mono hj J);obtain⟨δ,oj,α,η⟩:=mem_ready.1 hj;have ε:∀e∈oj.after,Region.binds .any e=true->e.on≠i:=λe he hb heq=>by
    have h1:=η e he hb;have h0:=(mem_ready.1 hr).1;rw [heq]at h1;rcases Qi i G.size with h' | h'
    ·simp [h']at h0 h1;rw [h0]at h1;cases h1
    ·simp [Array.getElem?_eq_none h']at h1
   have h2:=wpOp_putIf α (Z j oj α J δ ε) (λcs b=>γ i oi cs b hi) (λcs b=>γ j oj cs b α) hQ hy h1;have β:∀k ok,ops[k]?=some ok->k≠i->(G.setIfInBounds j true).getD k true=false->
     (∀e∈ok.after,Region.binds .any e=true->e.on≠i)->oi.apart ops ok=true:=λk ok hk κ θ μ=>by
    refine Z k ok hk κ ?_ μ;by_cases ι:j=k
    ·subst ι;exact δ
    ·rw [getD_set_ne true ι]at θ;exact θ
   refine wpOp_mono (λa' w' h3=>?_) h2;have ν:isLoad oi=true->S w':=by
    intro hl;have h4:=h3.2.1;split at h4
    ·rw [h4];exact hS hl
    ·exact h4 (Bc hi α hl ε)
   refine⟨h3.2.1,ih (G.setIfInBounds j true) a' w' β (ready_mono hr (Ry J)) h3.1 ν ?_⟩;rw [Array.setIfInBounds_comm _ _ J];exact h3.2.2
def jb (T:ef)(ops:Array Oper)(i:Nat):Bool:=match ops[i]? with
 | some o=>L6 T o||isLoad o
 | none=>false
inductive MR where
 | h | g | n
 deriving DecidableEq
inductive Pl where
 | done | lt (i:Nat) (p:Pl) | one (k:MR) (i:Nat) (p:Pl) | br (k:MR) (i:Nat) (p r:Pl)
def kOk (T:ef)(ops:Array Oper)(late:Bool)(k:MR)(i:Nat):Bool:=match late,k with
 | false,.h=>true
 | true,.g=> !jb T ops i
 | true,.n=> !jb T ops i&& !kO ops i
 | _,_=>false
def plC (T:ef)(ops:Array Oper)(late:Bool):Pl->Nat->Array Bool->List Nat->Bool->Bool
 | .done,_,_,q,_=>q.isEmpty
 | .lt i p,f+1,L,q,top=>top&&q.contains i&&Region.free .any ops L i&&(!late||jb T ops i)&&plC T ops late p f (L.setIfInBounds i true) (Region.ready .any ops (L.setIfInBounds i true)) true
 | .one k i p,f+1,L,q,_=>q==[i]&&kOk T ops late k i&&plC T ops late p f (L.setIfInBounds i true) (Region.ready .any ops (L.setIfInBounds i true)) true
 | .br k i p r,f+1,L,j::q,_=>j==i&&kOk T ops late k i&&plC T ops late p f (L.setIfInBounds i true) (Region.ready .any ops (L.setIfInBounds i true)) true&&plC T ops late r (f+1) L q false
 | _,_,_,_,_=>false
def runK:MR->Prop->Prop->Prop
 | .h,s,x=>s/\x
 | .g,s,x=>s/\x
 | .n,_,x=>x
def qA:MR->Prop->Prop->Prop
 | .h,_,x=>x
 | .g,s,x=>s/\x
 | .n,_,x=>x
def vcP (T:ef)(ops:Array Oper)(S:Sb)(K:Env->Sb):Pl->Env->Sb
 | .done,e,w=>K e w
 | .lt i p,e,w=>optK (ni (nN ops) i) λo=>n8 ops e o
   (λG=>boolK (isLoad o) (tW T G o S λy=>bindK (Gk o) y G λH=>vcP T ops S K p H w) (yZ T G o λy=>bindK (Gk o) y G λH=>vcP T ops S K p H w))
   (λG=>bindK (Gk o) .un G λH=>vcP T ops S K p H w)
 | .one k i p,e,w=>optK (ni (nN ops) i) λo=>n8 ops e o
   (λG=>A1 T G o w λy w'=>runK k (S w') (bindK (Gk o) y G λH=>vcP T ops S K p H w'))
   (λG=>qA k (S w) (bindK (Gk o) .un G λH=>vcP T ops S K p H w))
 | .br k i p r,e,w=>(optK (ni (nN ops) i) λo=>n8 ops e o
   (λG=>A1 T G o w λy w'=>runK k (S w') (bindK (Gk o) y G λH=>vcP T ops S K p H w'))
   (λG=>qA k (S w) (bindK (Gk o) .un G λH=>vcP T ops S K p H w)))/\vcP T ops S K r e w
section
variable {T:ef} {N:Nat} {ops:Array Oper} {S:Sb} {K:Env->Sb} {Q0:Exit->Act->Sb}
def zC (G:okOps N ops.toList=true){i:Nat}{o:Oper}(hi:ops[i]?=some o):(match o.dst with | some d=>decide (d< N) | none=>true)=true/\∀x,o.dst=some x->x∈dsts ops.toList:=by
 have hm:o∈ops.toList:=by
  have :=Array.mem_of_getElem? hi;simpa using this
 exact⟨PL.1 G o hm,λx H=>by rw [DI];exact List.mem_filterMap.2 ⟨o,hm,H⟩⟩
def FI (γ:Region.noSelect ops=true)(δ:okOps N ops.toList=true)(η:∀c a w,¬Q0 (.panic c) a w):∀(p:Pl) (f:Nat) (L:Array Bool) (q:List Nat) (top:Bool) (e:Env) (a:Act) (w:World),
  plC T ops false p f L q top=true->(top=true->q=Region.ready .any ops L)->aF N e a->S w->vcP T ops S K p e w->
  (∀e' a' w',K e' w'->aF N e' a'->a'.defers=a.defers->dV (dsts ops.toList) a a'->Q0 .normal a' w')->
  (top=true->wpAnyH T.P .any ops Q0 S f L a w)/\(top=false->∀f',f=f'+1->∀i∈q,wpOp T.P ops Q0 i (λa' w'=>S w'/\wpAnyH T.P .any ops Q0 S f' (L.setIfInBounds i true) a' w') a w):=by
 have oN:∀{p:Pl} {f:Nat} {L:Array Bool} {a:Act} {i:Nat} {o:Oper} {e1:Env} {y:SV} {w1:World},
   (∀(f:Nat) (L:Array Bool) (q:List Nat) (top:Bool) (e:Env) (a:Act) (w:World),plC T ops false p f L q top=true->(top=true->q=Region.ready .any ops L)->aF N e a->S w->vcP T ops S K p e w->
    (∀e' a' w',K e' w'->aF N e' a'->a'.defers=a.defers->dV (dsts ops.toList) a a'->Q0 .normal a' w')->
    (top=true->wpAnyH T.P .any ops Q0 S f L a w)/\(top=false->∀f',f=f'+1->∀i∈q,wpOp T.P ops Q0 i (λa' w'=>S w'/\wpAnyH T.P .any ops Q0 S f' (L.setIfInBounds i true) a' w') a w))->
   (∀e' a' w',K e' w'->aF N e' a'->a'.defers=a.defers->dV (dsts ops.toList) a a'->Q0 .normal a' w')->
   ops[i]?=some o->plC T ops false p f (L.setIfInBounds i true) (Region.ready .any ops (L.setIfInBounds i true)) true=true->aF N e1 a->S w1->vcP T ops S K p (bindDst o.dst y e1) w1->
   wpAnyH T.P .any ops Q0 S f (L.setIfInBounds i true) (a.put o.dst y.val) w1:=by
  intro p f L a i o e1 y w1 ih hQ hi H G θ h1;refine(ih f _ _ true _ _ _ H (λ _=>rfl) (G.bind (zC δ hi).1) θ h1 λe' a' w' Z ε ι κ=>hQ e' a' w' Z ε (ι.trans ?_) ((dV.put a o.dst y.val _ (zC δ hi).2).trans κ)).1 rfl;cases o.dst<;>rfl
 intro p
 induction p with
 | done=>
  intro f L q top e a w H hq J hS h hQ;have μ:q=[]:=by simpa [plC]using H
  subst μ;exact⟨λht=>wpAnyH_done (hq ht).symm (hQ e a w h J rfl (dV.refl _ _)) _,λ _ _ _ i hi=>by cases hi⟩
 | lt i p ih=>
  intro f L q top e a w H hq J hS h hQ;cases f with
  | zero=>simp [plC]at H
  | succ f=>
   simp only [plC,OA]at H;obtain⟨⟨⟨⟨ht,α⟩,ν⟩,_⟩,H⟩:=H;refine⟨λ _=>?_,λh0=>by rw [h0]at ht;cases ht⟩;rw [hq ht]at α;obtain⟨o,hi,h⟩:=bV h;rw [rz,fc]at hi;have take:∀{v:Value},YieldsIf T.P ops S o v a->wpAnyH T.P .any ops Q0 S f (L.setIfInBounds i true) (a.put o.dst v) w->wpAnyH T.P .any ops Q0 S (f+1) L a w:=by
    intro v hy hw;exact wpAnyH_take hi γ ν (by simpa using α) (λc a w hq=>absurd hq (η c _ _)) hy hS hw
   refine eP J h (λe1 G h1 hw=>?_) (λe1 G h1 hw=>?_)
   ·cases ζ:isLoad o with
    | true=>
     rw [ζ]at h1;obtain⟨y,Z,hr⟩:=xS G h1;rw [cC]at Z;exact take (.inl ⟨hw,hr⟩) (oN ih hQ hi H G hS Z)
    | false=>
     rw [ζ]at h1;obtain⟨y,Z,hr⟩:=pure_run G h1;rw [cC]at Z;exact take (.inl ⟨hw,λw _=>hr w⟩) (oN ih hQ hi H G hS Z)
   ·rw [cC]at h1;exact take (v:=undef) (.inr ⟨hw,rfl⟩) (oN (y:= .un) ih hQ hi H G hS h1)
 | one k i p ih=>
  intro f L q top e a w H hq J hS h hQ;cases f with
  | zero=>simp [plC]at H
  | succ f=>
   simp only [plC,OA,QY]at H;obtain⟨⟨ξ,Z⟩,H⟩:=H;have β:k= .h:=by cases k<;>first | rfl | cases Z
   subst β;subst ξ;have key:wpOp T.P ops Q0 i (λa' w'=>S w'/\wpAnyH T.P .any ops Q0 S f (L.setIfInBounds i true) a' w') a w:=by
    obtain⟨o,hi,h⟩:=bV h;rw [rz,fc]at hi;unfold wpOp;simp only [hi];refine eP J h (λe1 G h2 hw=>?_) (λe1 G h2 hw=>?_)
    ·rw [O' hw];left;refine pt G h2 _ _ λy w' Z=>?_
     obtain⟨h3,h4⟩:=Z;rw [cC]at h4;exact⟨h3,oN ih hQ hi H G h3 h4⟩
    ·rw [OP (by rw [hw];simp)];simp only [qA,cC]at h2;exact⟨hS,oN (y:= .un) ih hQ hi H G hS h2⟩
   refine⟨λht=>wpAnyH_all (hq ht).symm (by simp) λj hj=>?_,λ _ f' hf j hj=>?_⟩
   ·rw [OL.1 hj];exact key
   ·cases hf;rw [OL.1 hj];exact key
 | br k i p r ih ο=>
  intro f L q top e a w H hq J hS h hQ;cases f with
  | zero=>simp [plC]at H
  | succ f=>
   cases q with
   | nil=>simp [plC]at H
   | cons j q=>
    simp only [plC,OA,QY]at H;obtain⟨⟨⟨ς,Z⟩,H⟩,υ⟩:=H;have β:k= .h:=by cases k<;>first | rfl | cases Z
    subst β;subst ς;obtain⟨h,hr⟩:=h;have key:wpOp T.P ops Q0 j (λa' w'=>S w'/\wpAnyH T.P .any ops Q0 S f (L.setIfInBounds j true) a' w') a w:=by
     obtain⟨o,hi,h⟩:=bV h;rw [rz,fc]at hi;unfold wpOp;simp only [hi];refine eP J h (λe1 G h2 hw=>?_) (λe1 G h2 hw=>?_)
     ·rw [O' hw];left;refine pt G h2 _ _ λy w' Z=>?_
      obtain⟨h3,h4⟩:=Z;rw [cC]at h4;exact⟨h3,oN ih hQ hi H G h3 h4⟩
     ·rw [OP (by rw [hw];simp)];simp only [qA,cC]at h2;exact⟨hS,oN (y:= .un) ih hQ hi H G hS h2⟩
    have rest:=(ο (f+1) L q false e a w υ (λh=>by cases h) J hS hr hQ).2 rfl f rfl;have all:∀i∈j::q,wpOp T.P ops Q0 i (λa' w'=>S w'/\wpAnyH T.P .any ops Q0 S f (L.setIfInBounds i true) a' w') a w:=by
     intro i hi;cases hi with
     | head=>exact key
     | tail _ hi=>exact rest i hi
    exact⟨λht=>wpAnyH_all (hq ht).symm (by simp) all,λ _ f' hf=>by cases hf;exact all⟩
end
def zG (ops:Array Oper)(S:Sb)(G:Array Bool)(w:World):Prop:=∀l ol,ops[l]?=some ol->isLoad ol=true->G.getD l true=false->S w
def zG.less {ops:Array Oper}{S:Sb}{G:Array Bool}{w:World}(h:zG ops S G w)(j:Nat):zG ops S (G.setIfInBounds j true) w:=by
 intro l ol h1 h2 J;refine h l ol h1 h2 ?_;by_cases H:j=l
 ·subst H;rcases Qi j G.size with Z | Z
  ·simp [Array.getD,Z]at J
  ·simp [Array.getD,Nat.not_lt.2 Z]at J
 ·rw [getD_set_ne true H]at J;exact J
section
variable {T:ef} {N:Nat} {ops:Array Oper} {S:Sb} {K:Env->Sb} {Q0:Exit->Act->Sb}
def Ge (θ:Region.noSelect ops=true)(ι:okOps N ops.toList=true)(υ:∀c a w,¬Q0 (.panic c) a w):∀(p:Pl) (f:Nat) (L:Array Bool) (q:List Nat) (top:Bool) (e:Env) (a:Act) (w:World),
  plC T ops true p f L q top=true->(∀i∈q,i∈Region.ready .any ops L)->(top=true->q=Region.ready .any ops L)->aF N e a->zG ops S L w->vcP T ops S K p e w->
  (∀e' a' w',K e' w'->aF N e' a'->a'.defers=a.defers->dV (dsts ops.toList) a a'->Q0 .normal a' w')->
  (top=true->eh T.P ops (jb T ops) Q0 S f L a w)/\(top=false->∀f',f=f'+1->∀i∈q,wpOp T.P ops Q0 i (λa' w'=>(if jb T ops i=true then w'=w else kO ops i=true->S w')/\eh T.P ops (jb T ops) Q0 S f' (L.setIfInBounds i true) a' w') a w):=by
 have oN:∀{p:Pl} {f:Nat} {L:Array Bool} {a:Act} {i:Nat} {o:Oper} {e1:Env} {y:SV} {w1:World},
   (∀(f:Nat) (L:Array Bool) (q:List Nat) (top:Bool) (e:Env) (a:Act) (w:World),plC T ops true p f L q top=true->(∀i∈q,i∈Region.ready .any ops L)->(top=true->q=Region.ready .any ops L)->aF N e a->zG ops S L w->vcP T ops S K p e w->
    (∀e' a' w',K e' w'->aF N e' a'->a'.defers=a.defers->dV (dsts ops.toList) a a'->Q0 .normal a' w')->
    (top=true->eh T.P ops (jb T ops) Q0 S f L a w)/\(top=false->∀f',f=f'+1->∀i∈q,wpOp T.P ops Q0 i (λa' w'=>(if jb T ops i=true then w'=w else kO ops i=true->S w')/\eh T.P ops (jb T ops) Q0 S f' (L.setIfInBounds i true) a' w') a w))->
   (∀e' a' w',K e' w'->aF N e' a'->a'.defers=a.defers->dV (dsts ops.toList) a a'->Q0 .normal a' w')->
   ops[i]?=some o->plC T ops true p f (L.setIfInBounds i true) (Region.ready .any ops (L.setIfInBounds i true)) true=true->aF N e1 a->zG ops S (L.setIfInBounds i true) w1->vcP T ops S K p (bindDst o.dst y e1) w1->
   eh T.P ops (jb T ops) Q0 S f (L.setIfInBounds i true) (a.put o.dst y.val) w1:=by
  intro p f L a i o e1 y w1 ih hQ hi H G γ h1;refine(ih f _ _ true _ _ _ H (λ _ h=>h) (λ _=>rfl) (G.bind (zC ι hi).1) γ h1 λe' a' w' J κ φ χ=>hQ e' a' w' J κ (φ.trans ?_) ((dV.put a o.dst y.val _ (zC ι hi).2).trans χ)).1 rfl;cases o.dst<;>rfl
 have alt:∀{k:MR} {i:Nat} {p:Pl} {f:Nat} {L:Array Bool} {e:Env} {a:Act} {w:World},
   (∀{o:Oper} {e1:Env} {y:SV} {w1:World},ops[i]?=some o->aF N e1 a->zG ops S (L.setIfInBounds i true) w1->vcP T ops S K p (bindDst o.dst y e1) w1->eh T.P ops (jb T ops) Q0 S f (L.setIfInBounds i true) (a.put o.dst y.val) w1)->
   kOk T ops true k i=true->i∈Region.ready .any ops L->aF N e a->zG ops S L w->
   (optK (ni (nN ops) i) λo=>n8 ops e o (λe'=>A1 T e' o w λy w'=>runK k (S w') (bindK (Gk o) y e' λe1=>vcP T ops S K p e1 w')) (λe'=>qA k (S w) (bindK (Gk o) .un e' λe1=>vcP T ops S K p e1 w)))->
   wpOp T.P ops Q0 i (λa' w'=>(if jb T ops i=true then w'=w else kO ops i=true->S w')/\eh T.P ops (jb T ops) Q0 S f (L.setIfInBounds i true) a' w') a w:=by
  intro k i p f L e a w next J ψ Z hS h;obtain⟨o,hi,h⟩:=bV h;rw [rz,fc]at hi;have μ:¬jb T ops i=true:=by
   cases k<;>simp [kOk]at J
   ·rw [J];simp
   ·rw [J.1];simp
  have ω:∀{X Y:Prop},runK k X Y->(kO ops i=true->X)/\Y:=by
   intro X Y h;cases k with
   | h=>cases J
   | g=>exact⟨λ _=>h.1,h.2⟩
   | n=>simp [kOk]at J;exact⟨λhh=>(by rw [J.2]at hh;cases hh),h⟩
  have hsk:∀{X Y:Prop},qA k X Y->(kO ops i=true->X)/\Y:=by
   intro X Y h;cases k with
   | h=>cases J
   | g=>exact⟨λ _=>h.1,h.2⟩
   | n=>simp [kOk]at J;exact⟨λhh=>(by rw [J.2]at hh;cases hh),h⟩
  obtain⟨_,oi,ν,ξ⟩:=mem_ready.1 ψ;rw [hi]at ν;cases ν;unfold wpOp;simp only [hi];refine eP Z h (λe1 G h2 hw=>?_) (λe1 G h2 hw=>?_)
  ·rw [O' hw];left;refine pt G h2 _ _ λy w' J=>?_
   obtain⟨ζ,δ⟩:=ω J;rw [cC]at δ;rw [OP μ];have inv:(kO ops i=true->S w')->zG ops S (L.setIfInBounds i true) w':=by
    intro hs l ol k1 k2 k3;refine hs (Bc k1 hi k2 λe he hb heq=>?_);have h4:=ξ e he hb;rw [heq]at h4;by_cases ο:i=l
    ·subst ο;rcases Qi i L.size with h' | h'
     ·simp [Array.getD,h']at k3
     ·simp [Array.getD,Nat.not_lt.2 h']at k3
    ·rw [getD_set_ne true ο]at k3;rcases Qi l L.size with h' | h'
     ·simp [Array.getD,h']at k3 h4;rw [k3]at h4;cases h4
     ·simp [Array.getD,Nat.not_lt.2 h']at k3
   exact⟨ζ,next hi G (inv ζ) δ⟩
  ·rw [OP (by rw [hw];simp),OP μ];obtain⟨ζ,δ⟩:=hsk h2;rw [cC]at δ;exact⟨ζ,next (y:= .un) hi G (hS.less i) δ⟩
 intro p
 induction p with
 | done=>
  intro f L q top e a w H β hq Z hS h hQ;have hq0:q=[]:=by simpa [plC]using H
  subst hq0;refine⟨λht=>?_,λ _ _ _ i hi=>by cases hi⟩;have hr:=(hq ht).symm;have ς:=hQ e a w h Z rfl (dV.refl _ _);cases f with
  | zero=>exact⟨hr,ς⟩
  | succ f=>exact⟨λ _=>ς,λi hi=>by rw [hr]at hi;cases hi⟩
 | lt i p ih=>
  intro f L q top e a w H β hq Z hS h hQ;cases f with
  | zero=>simp [plC]at H
  | succ f=>
   simp only [plC,OA]at H;obtain⟨⟨⟨⟨ht,α⟩,hfr⟩,η⟩,H⟩:=H;have η:jb T ops i=true:=by simpa using η
   refine⟨λ _=>?_,λh0=>by rw [h0]at ht;cases ht⟩;rw [hq ht]at α;have α:i∈Region.ready .any ops L:=by simpa using α
   obtain⟨o,hi,h⟩:=bV h;rw [rz,fc]at hi;have hSi:isLoad o=true->S w:=λε=>hS i o hi ε (mem_ready.1 α).1
   have take:∀{v:Value},YieldsIf T.P ops (λw=>isLoad o=true->S w) o v a->eh T.P ops (jb T ops) Q0 S f (L.setIfInBounds i true) (a.put o.dst v) w->eh T.P ops (jb T ops) Q0 S (f+1) L a w:=by
    intro v hy hw;exact yJ hi η (Region.noSelect_spec θ) (λc a w hq=>absurd hq (υ c _ _)) f L a w (Region.free_spec hi hfr) α hy hSi hw
   refine eP Z h (λe1 G h1 hw=>?_) (λe1 G h1 hw=>?_)
   ·cases ε:isLoad o with
    | true=>
     rw [ε]at h1;obtain⟨y,J,hr⟩:=xS G h1;rw [cC]at J;exact take (.inl ⟨hw,λw hs=>hr w (hs ε)⟩) (oN ih hQ hi H G (hS.less i) J)
    | false=>
     rw [ε]at h1;obtain⟨y,J,hr⟩:=pure_run G h1;rw [cC]at J;exact take (.inl ⟨hw,λw _=>hr w⟩) (oN ih hQ hi H G (hS.less i) J)
   ·rw [cC]at h1;exact take (v:=undef) (.inr ⟨hw,rfl⟩) (oN (y:= .un) ih hQ hi H G (hS.less i) h1)
 | one k i p ih=>
  intro f L q top e a w H β hq Z hS h hQ;cases f with
  | zero=>simp [plC]at H
  | succ f=>
   simp only [plC,OA,QY]at H;obtain⟨⟨hqi,J⟩,H⟩:=H;subst hqi;have key:=alt (f:=f) (λhi G γ h1=>oN ih hQ hi H G γ h1) J (β i (by simp)) Z hS h;have all:∀j∈[i],wpOp T.P ops Q0 j (λa' w'=>(if jb T ops j=true then w'=w else kO ops j=true->S w')/\eh T.P ops (jb T ops) Q0 S f (L.setIfInBounds j true) a' w') a w:=by
    intro j hj;rw [OL.1 hj];exact key
   refine⟨λht=>⟨λh0=>?_,λj hj=>all j (by rw [hq ht];exact hj)⟩,λ _ f' hf=>by cases hf;exact all⟩;rw [<-hq ht]at h0;cases h0
 | br k i p r ih ihr=>
  intro f L q top e a w H β hq Z hS h hQ;cases f with
  | zero=>simp [plC]at H
  | succ f=>
   cases q with
   | nil=>simp [plC]at H
   | cons j q=>
    simp only [plC,OA,QY]at H;obtain⟨⟨⟨hji,J⟩,H⟩,hpr⟩:=H;subst hji;obtain⟨h,hr⟩:=h;have key:=alt (f:=f) (λhi G γ h1=>oN ih hQ hi H G γ h1) J (β j (by simp)) Z hS h;have rest:=(ihr (f+1) L q false e a w hpr (λi hi=>β i (by simp [hi])) (λh=>by cases h) Z hS hr hQ).2 rfl f rfl;have all:∀i∈j::q,wpOp T.P ops Q0 i (λa' w'=>(if jb T ops i=true then w'=w else kO ops i=true->S w')/\eh T.P ops (jb T ops) Q0 S f (L.setIfInBounds i true) a' w') a w:=by
     intro i hi;cases hi with
     | head=>exact key
     | tail _ hi=>exact rest i hi
    refine⟨λht=>⟨λh0=>?_,λi hi=>all i (by rw [hq ht];exact hi)⟩,λ _ f' hf=>by cases hf;exact all⟩;rw [<-hq ht]at h0;cases h0
end
inductive XE where
 | normal | exit (id:Nat) | ret
def XE.toExit:XE->Exit
 | .normal=> .normal | .exit id=> .exit id | .ret=> .ret
@[reducible] def Mm:Code->Nat
 | .region id _ _=>id
 | .seq a _=>Mm a
 | .cond _ a _=>Mm a
 | .block _ c=>Mm c
 | .loop c=>Mm c
 | _=>1000000
@[reducible] def writes:Code->List Nat
 | .region _ ops _=>dsts (nN ops)
 | .seq a b=>AG (writes a) (writes b)
 | .cond _ a b=>AG (writes a) (writes b)
 | .block _ c=>writes c
 | .loop c=>writes c
 | _=>[]
structure Fi where
 loops:Nat->Option (List (Nat×Kd))
 cuts:Nat->Option (List (Nat×Kd))
 late:Nat->Option (Bool×Pl)
@[reducible] def Fi.L (A:Fi) (n:Nat):Option (List (Nat×Kd)):=match A with
 | ⟨l,_,_⟩=>l n
@[reducible] def Fi.C (A:Fi) (n:Nat):Option (List (Nat×Kd)):=match A with
 | ⟨_,c,_⟩=>c n
@[reducible] def Fi.T (A:Fi) (n:Nat):Option (Bool×Pl):=match A with
 | ⟨_,_,t⟩=>t n
@[reducible] def CZ (L:List (Nat×Kd)):List Kd:=mapR NQ L
@[reducible] def valsOf (e:Env):List (Nat×Kd)->Option (List SV)
 | []=>some []
 | (t,_)::L=>match look e t,valsOf e L with
  | some x,some xs=>some (x::xs)
  | _,_=>none
@[reducible] def HH:List (Nat×Kd)->List SV->Env
 | (t,_)::L,x::xs=>(t,x)::HH L xs
 | _,_=>[]
@[reducible] def keepE (ws:List Nat):Env->Env
 | []=>[]
 | (t,x)::e=>match hasR ws t with
  | true=>keepE ws e
  | false=>(t,x)::keepE ws e
def forceE:Env->(Env->Prop)->Prop
 | [],k=>k []
 | x::e,k=>forceE e λG=>k (x::G)
def qQ:∀(e:Env) (k:Env->Prop),forceE e k=k e
 | [],_=>rfl
 | x::e,k=>by rw [forceE,qQ e]
abbrev CurN:List Kd->Type
 | []=>World->Nat
 | k::L=>k.T->CurN L
def CurN.app:(L:List Kd)->CurN L->List SV->World->Nat
 | [],m,_,w=>m w
 | k::L,m,x::xs,w=>optN (k.un x) λt=>CurN.app L (m t) xs w
 | _::_,_,[],_=>0
def J' (L:List (Nat×Kd))(R:Cur (CZ L))(e:Env)(w:World):Prop:=optK (valsOf e L) λxs=>Cur.app (CZ L) R xs w
def okCode (T:ef)(A:Fi)(N:Nat):Code->Bool
 | .region _ ops false=>okOps N ops.toList
 | .region id ops true=>okOps N ops.toList&&Region.noSelect ops&&(match A.T id with
  | some (late,p)=>plC T ops late p ops.size (Array.replicate ops.size false) (Region.ready .any ops (Array.replicate ops.size false)) true
  | none=>false)
 | .seq a b=>okCode T A N a&&okCode T A N b
 | .cond _ a b=>okCode T A N a&&okCode T A N b
 | .block _ c=>okCode T A N c
 | .loop c=>okCode T A N c
 | _=>true
def xK:XE->Prop->Prop->(Nat->Prop)->Prop
 | .normal,a,_,_=>a
 | .ret,_,b,_=>b
 | .exit i,_,_,k=>k i
def cutK {α:Type}:Option α->Prop->(α->Prop)->Prop
 | none,a,_=>a
 | some x,_,k=>k x
def condK:Option SV->Prop->Prop->Prop
 | some .tt,a,_=>a
 | some .ff,_,b=>b
 | some (.b x),a,b=>(x=true->a)/\(x=false->b)
 | _,_,_=>False
def planK:Option (Bool×Pl)->(Pl->Prop)->Prop
 | some (_,p),k=>k p
 | none,_=>False
def vc (T:ef)(A:Fi):Code->Env->World->(XE->Env->Sb)->Prop
 | .skip,e,w,Q=>Q .normal e w
 | .region _ ops false,e,w,Q=>vcOps T ops (λG w'=>Q .normal G w') (nN ops) e w
 | .region id ops true,e,w,Q=>planK (A.T id) λp=>∃S:Sb,∀w1,w1=w.drew->S w1/\vcP T ops S (λG w'=>Q .normal G w') p e w1
 | .seq a b,e,w,Q=>cutK (A.C (Mm b))
   (vc T A a e w λx G w'=>xK x (vc T A b G w' Q) (Q .ret G w') λi=>Q (.exit i) G w')
   (λL=>∃J:Cur (CZ L),(vc T A a e w λx G w'=>xK x (J' L J G w') (Q .ret G w') λi=>Q (.exit i) G w')/\
    AllT (CZ L) λxs=>∀w',Cur.app (CZ L) J xs w'->forceE (AG (HH L xs) (keepE (writes a) e)) λZ=>vc T A b Z w' Q)
 | .cond c a b,e,w,Q=>condK (ev e c) (vc T A a e w Q) (vc T A b e w Q)
 | .block id c,e,w,Q=>vc T A c e w λx G w'=>xK x (Q .normal G w') (Q .ret G w') λi=>boolK (beqR i id) (Q .normal G w') (Q (.exit i) G w')
 | .loop c,e,w,Q=>optK (A.L (Mm c)) λL=>∃(I:Cur (CZ L)) (m:CurN (CZ L)),J' L I e w/\AllT (CZ L) λxs=>∀w',Cur.app (CZ L) I xs w'->
    forceE (AG (HH L xs) (keepE (writes c) e)) λZ=>vc T A c Z w' λx H w''=>
     xK x (J' L I H w''/\optK (valsOf H L) λys=>CurN.app (CZ L) m ys w''< CurN.app (CZ L) m xs w') (Q .ret H w'') λi=>Q (.exit i) H w''
 | .exit id,e,w,Q=>Q (.exit id) e w
 | .ret,e,w,Q=>Q .ret e w
 | _,_,_,_=>False
inductive RI where
 | tmp (slot:Nat) (k:Kd)
 | cell (slot t:Nat) (k:Kd)
 | agg (slot t:Nat)
@[reducible] def RI.kd:RI->Kd
 | .tmp _ k=>k
 | .cell _ _ k=>k
 | .agg _ _=> .v
@[reducible] def RI.rv:RI->ResultVar
 | .tmp s _=> .tmp s
 | .cell s t _=> .cell s t
 | .agg s t=> .cell s t
@[reducible] def n7 (L:List RI):List Kd:=mapR RI.kd L
@[reducible] def N6 (k:Kd):Option SV->Option k.T
 | some x=>k.un x
 | none=>none
def Gy {k:Kd}{x:Option SV}{t:k.T}(h:N6 k x=some t):∃y,x=some y/\k.un y=some t:=by
 cases x with
 | none=>cases h
 | some y=>exact⟨y,rfl,h⟩
@[reducible] def adr? (T:ef) (t:Nat):Option SV->Option (Nat×Nat)
 | some (.a b off)=>match single (T.U t)with
  | true=>some (b,off)
  | false=>none
 | _=>none
def adrK:Option (Nat×Nat)->(Nat->Nat->Prop)->Prop
 | some (b,off),k=>k b off
 | none,_=>False
def FD {T:ef}{t:Nat}{x:Option SV}{k:Nat->Nat->Prop}(h:adrK (adr? T t x) k):∃b off,x=some (.a b off)/\single (T.und t)=true/\k b off:=by
 unfold adr? at h;split at h
 ·split at h
  ·exact⟨_,_,rfl,by assumption,h⟩
  ·exact h.elim
 ·exact h.elim
inductive AR where
 | agg (b off:Nat) (ks:List Kd) | list (b off n:Nat) | bad
@[reducible] def aggR (T:ef) (t:Nat):Option SV->AR
 | some (.a b off)=>match yz (T.U t),cellK T t,T.I t with
  | true,some ks,some (_,n,_)=>(match Nat.beq (Cs ks) n with
   | true=> .agg b off ks
   | false=> .bad)
  | true,none,some (_,n,_)=> .list b off n
  | _,_,_=> .bad
 | _=> .bad
def runAR:AR->World->(Value->Prop)->Prop
 | .agg b off ks,w,k=>ExL ks λxs=>CellsAt w b off xs/\k (.agg (SV.aS xs).toArray)
 | .list b off n,w,k=>∃cs:List Value,cs.length=n/\(∀j,j< n->w.cell? ⟨b,off+j,none⟩=cs[j]?)/\k (.agg cs.toArray)
 | .bad,_,_=>False
def finR (T:ef):(L:List RI)->Cur (n7 L)->Env->Sb
 | [],R,_,w=>R w
 | .tmp s k::L,R,e,w=>optK (N6 k (look e s)) λt=>finR T L (R t) e w
 | .cell s t k::L,R,e,w=>adrK (adr? T t (look e s)) λb off=>∃x:k.T,w.cell? ⟨b,off,none⟩=some (k.sv x).val/\finR T L (R x) e w
 | .agg s t::L,R,e,w=>runAR (aggR T t (look e s)) w λv=>finR T L (R v) e w
def fin (T:ef)(L:List RI)(R:Cur (n7 L)):XE->Env->Sb
 | .exit _,_,_=>False
 | .normal,e,w=>finR T L R e w
 | .ret,e,w=>finR T L R e w
attribute [go_sem] CurN
def Kd.dec:(k:Kd)->Value->k.T
 | .i,.int _ n=>n
 | .i,_=>0
 | .c,.int _ n=>UInt8.ofNat n.toNat
 | .c,_=>0
 | .w,.int _ n=>UInt32.ofNat n.toNat
 | .w,_=>0
 | .s,.string str=>str.data.toList
 | .s,_=>[]
 | .b,.bool G=>G
 | .b,_=>false
 | .v,x=>x
def Kd.Mz (k:Kd)(t:k.T):k.dec (k.sv t).val=t:=by
 cases k
 ·rfl
 ·show UInt8.ofNat ((t.toNat:Int)).toNat=t;simp
 ·show UInt32.ofNat ((t.toNat:Int)).toNat=t;simp
 ·show(ak t).data.toList=t;simp [ak]
 ·rfl
 ·rfl
def Kd.Hn (k:Kd)(t:k.T):k.un (k.sv t)=some t:=by cases k<;>rfl
def Typed:List Kd->List SV->Prop
 | [],[]=>True
 | k::L,x::xs=>(∃t:k.T,x=k.sv t)/\Typed L xs
 | _,_=>False
def AllT.get:∀{L:List Kd} {K:List SV->Prop},AllT L K->∀{xs:List SV},Typed L xs->K xs
 | [],K,h,[],_=>h
 | [],K,h,_::_,G=>G.elim
 | k::L,K,h,[],G=>G.elim
 | k::L,K,h,x::xs,G=>by
  obtain⟨⟨t,H⟩,G⟩:=G;subst H;exact AllT.get (h t) G
def canon:∀{L:List Kd} {R:Cur L} {xs:List SV} {w:World},Cur.app L R xs w->
  ∃zs,Typed L zs/\SV.aS zs=SV.aS xs/\Cur.app L R zs w/\∀(m:CurN L) (w':World),CurN.app L m zs w'=CurN.app L m xs w'
 | [],R,[],w,h=>⟨[],trivial,rfl,h,λ _ _=>rfl⟩
 | [],R,_::_,w,h=>h.elim
 | k::L,R,[],w,h=>h.elim
 | k::L,R,x::xs,w,h=>by
  rw [Cur.app]at h;obtain⟨t,G,h⟩:=bV h
  ·obtain⟨zs,H,J,Z,h4⟩:=canon h;refine⟨k.sv t::zs,⟨⟨t,rfl⟩,H⟩,by simp [SV.aS,J,Kd.C3 G],?_,λm w'=>?_⟩
   ·rw [Cur.app,Kd.Hn];exact Z
   ·rw [CurN.app,CurN.app,Kd.Hn,G];exact h4 _ _
def Reads (a:Act):List (Nat×Kd)->List SV->Prop
 | [],[]=>True
 | (t,_)::L,x::xs=>a.tmps.getD t undef=x.val/\Reads a L xs
 | _,_=>False
def Reads.tw {N:Nat}{e:Env}{a:Act}(G:aF N e a):∀{L:List (Nat×Kd)} {xs:List SV},valsOf e L=some xs->Reads a L xs
 | [],xs,h=>by cases h;trivial
 | (t,k)::L,xs,h=>by
  unfold valsOf at h;split at h
  ·rename_i x Z H J;cases h;exact⟨G.2 _ _ H,Reads.tw G J⟩
  ·cases h
def Reads.congr {a:Act}:∀{L:List (Nat×Kd)} {xs G:List SV},Reads a L xs->SV.aS G=SV.aS xs->Reads a L G
 | [],[],[],_,_=>trivial
 | [],[],_::_,_,h=>by simp [SV.aS]at h
 | _::_,[],_,h,_=>h.elim
 | [],_::_,_,h,_=>h.elim
 | (t,k)::L,x::xs,[],_,h=>by simp [SV.aS]at h
 | (t,k)::L,x::xs,y::G,⟨H,J⟩,h=>by
  simp only [SV.aS,Po]at h;exact⟨H.trans h.1.symm,Reads.congr J h.2⟩
def aF.zip {N:Nat}{e:Env}{a:Act}(G:aF N e a):∀{L:List (Nat×Kd)} {xs:List SV},Reads a L xs->aF N (HH L xs++e) a
 | [],[],_=>G
 | [],_::_,h=>h.elim
 | _::_,[],h=>h.elim
 | (t,k)::L,x::xs,⟨J,Z⟩=>by
  have ih:=aF.zip G Z;refine⟨G.1,λu y H=>?_⟩;simp only [HH,PC,look]at H;split at H
  ·rename_i heq;have :=lf heq;subst this;cases H;exact J
  ·exact ih.2 u y H
def qR {ws:List Nat}{t:Nat}:∀{e:Env} {x:SV},look (keepE ws e) t=some x->t∉ws/\look e t=some x
 | [],x,h=>by simp [keepE,look]at h
 | (u,y)::e,x,h=>by
  unfold keepE at h;split at h
  ·rename_i hu;have :=qR (e:=e) h;refine⟨this.1,?_⟩;simp only [look];rw [tD]at hu;have G:u∈ws:=by simpa using hu
   have H:u≠t:=λhe=>this.1 (he▸G)
   split
   ·exact absurd (lf (by assumption)) H
   ·exact this.2
  ·rename_i hu;rw [tD]at hu;simp only [look]at h|-;split at h
   ·rename_i heq;have :=lf heq;subst this;exact⟨by simpa using hu,h⟩
   ·exact qR (e:=e) h
def aF.keep {N:Nat}{e:Env}{a a':Act}{ws:List Nat}(G:aF N e a)(H:dV ws a a')(J:a'.tmps.size=N):aF N (keepE ws e) a':=
 ⟨J,λt x Z=>by obtain⟨h1,h2⟩:=qR Z;rw [H t h1];exact G.2 t x h2⟩
def decs (a:Act):List (Nat×Kd)->List SV
 | []=>[]
 | (t,k)::L=>k.sv (k.dec (a.tmps.getD t undef))::decs a L
def Ar {a:Act}:∀{L:List (Nat×Kd)} {xs:List SV},Typed (CZ L) xs->Reads a L xs->decs a L=xs
 | [],[],_,_=>rfl
 | [],_::_,_,h=>h.elim
 | _::_,[],_,h=>h.elim
 | (t,k)::L,x::xs,⟨⟨y,G⟩,H⟩,⟨J,Z⟩=>by
  simp only [decs];rw [Ar H Z,J,G,Kd.Mz]
def Il {T:ef}{A:Fi}{N:Nat}:∀(c:Code) (e:Env) (a:Act) (w:World) (Q:XE->Env->Sb) (Q':Exit->Act->Sb),
  aF N e a->okCode T A N c=true->vc T A c e w Q->
  (∀x e' a' w',Q x e' w'->aF N e' a'->a'.defers=a.defers->dV (writes c) a a'->Q' x.toExit a' w')->c.wp T.P Q' a w:=by
 intro c
 induction c with
 | skip=>intro e a w Q Q' G _ h Z;exact wp_skip (Z .normal e a w h G rfl (dV.refl _ _))
 | exit id=>intro e a w Q Q' G _ h Z;exact wp_exit (Z (.exit id) e a w h G rfl (dV.refl _ _))
 | ret=>intro e a w Q Q' G _ h Z;exact wp_ret (Z .ret e a w h G rfl (dV.refl _ _))
 | region id ops draw=>
  intro e a w Q Q' G H h Z;cases draw with
  | true=>
   unfold vc at h;simp only [okCode,OA]at H;obtain⟨⟨H,ε⟩,ζ⟩:=H;cases hT:A.T id with
   | none=>rw [hT]at h;exact h.elim
   | some lp=>
    obtain⟨late,p⟩:=lp;rw [hT]at h ζ;obtain⟨S,h⟩:=h;obtain⟨hS,h⟩:=h _ rfl;have h1:(Code.region id ops true).wp T.P (λx a' w'=>x= .normal/\Q' .normal a' w') a w:=by
     cases late with
     | true=>exact wp_region_any T.mixed (vU _ _ _ _ ((Ge ε H (λc a w hq=>by cases hq.1) p _ _ _ true e a _ ζ (λ _ h=>h) (λ _=>rfl) G (λ _ _ _ _ _=>hS) h λe' a' w' hk α hd hs=>⟨rfl,Z .normal e' a' w' hk α hd hs⟩).1 rfl))
     | false=>exact wp_region_held (S:=S) T.mixed ((FI ε H (λc a w hq=>by cases hq.1) p _ _ _ true e a _ ζ (λ _=>rfl) G hS h λe' a' w' hk α hd hs=>⟨rfl,Z .normal e' a' w' hk α hd hs⟩).1 rfl)
    refine wp_mono h1 λx a' w' hx=>?_
    obtain⟨rfl,hx⟩:=hx;exact hx
  | false=>
   unfold vc at h;exact wp_region_list (ru _ _ _ _ G H h λe' a' w' hk α hd hs=>Z .normal e' a' w' hk α hd hs)
 | cond c x y β γ=>
  intro e a w Q Q' G H h Z;simp only [okCode,OA]at H;have gx:vc T A x e w Q->x.wp T.P Q' a w:=λh=>β e a w Q Q' G H.1 h λz e' a' w' hz h1 h2 h3=>Z z e' a' w' hz h1 h2 (h3.mono λt ht=>by simp [writes,iP,ht])
  have gy:vc T A y e w Q->y.wp T.P Q' a w:=λh=>γ e a w Q Q' G H.2 h λz e' a' w' hz h1 h2 h3=>Z z e' a' w' hz h1 h2 (h3.mono λt ht=>by simp [writes,iP,ht])
  unfold vc condK at h;split at h
  ·rename_i hc;exact wp_cond_true (aH G hc) (gx h)
  ·rename_i hc;exact wp_cond_false (aH G hc) (gy h)
  ·rename_i b hc;exact wp_cond_split (t:=b) (aH G hc) (λht=>gx (h.1 ht)) (λhf=>gy (h.2 hf))
  ·exact h.elim
 | block id c ih=>
  intro e a w Q Q' G H h Z;refine wp_block (ih e a w _ _ G H h λx e' a' w' hx h1 h2 h3=>?_);cases x with
  | normal=>exact Z .normal e' a' w' hx h1 h2 h3
  | ret=>exact Z .ret e' a' w' hx h1 h2 h3
  | exit i=>
   simp only [XE.toExit,Exit.inBlock];simp only [xK,Jg]at hx;cases hi:Nat.beq i id with
   | true=>rw [hi]at hx;rw [O' (lf hi)];exact Z .normal e' a' w' hx h1 h2 h3
   | false=>
    rw [hi]at hx;rw [OP (λe=>by rw [e,Nat.beq_refl]at hi;cases hi)];exact Z (.exit i) e' a' w' hx h1 h2 h3
 | seq x y β γ=>
  intro e a w Q Q' G H h Z;simp only [okCode,OA]at H;have sx:∀t,t∈writes x->t∈writes (x.seq y):=λt ht=>by simp [writes,iP,ht]
  have sy:∀t,t∈writes y->t∈writes (x.seq y):=λt ht=>by simp [writes,iP,ht]
  unfold vc at h;cases hL:A.C (Mm y)with
  | none=>
   rw [hL]at h;refine wp_seq (β e a w _ _ G H.1 h λz e' a' w' hz h1 h2 h3=>?_);cases z with
   | normal=>exact γ e' a' w' Q Q' h1 H.2 hz λz' e2 a2 w2 η k1 k2 k3=>Z z' e2 a2 w2 η k1 (k2.trans h2) ((h3.mono sx).trans (k3.mono sy))
   | ret=>exact Z .ret e' a' w' hz h1 h2 (h3.mono sx)
   | exit i=>exact Z (.exit i) e' a' w' hz h1 h2 (h3.mono sx)
  | some L=>
   rw [hL]at h;obtain⟨J,hx,hy⟩:=h;refine wp_seq (β e a w _ _ G H.1 hx λz e' a' w' hz h1 h2 h3=>?_);cases z with
   | normal=>
    obtain⟨xs,θ,hz⟩:=bV hz
    ·obtain⟨zs,t1,t2,t3,_⟩:=canon hz;have δ:=(Reads.tw h1 θ).congr t2;have hy:=hy.get t1 w' t3;rw [qQ,iP]at hy;exact γ _ a' w' Q Q' ((G.keep h3 h1.1).zip δ) H.2 hy λz' e2 a2 w2 η k1 k2 k3=>Z z' e2 a2 w2 η k1 (k2.trans h2) ((h3.mono sx).trans (k3.mono sy))
   | ret=>exact Z .ret e' a' w' hz h1 h2 (h3.mono sx)
   | exit i=>exact Z (.exit i) e' a' w' hz h1 h2 (h3.mono sx)
 | loop c ih=>
  intro e a w Q Q' G H h Z;unfold vc at h;obtain⟨L,hL,h⟩:=bV h
  ·obtain⟨I,m,h0,hr⟩:=h;refine wp_loop (λa' w'=>∃xs,Typed (CZ L) xs/\Reads a' L xs/\Cur.app (CZ L) I xs w'/\a'.tmps.size=N/\a'.defers=a.defers/\dV (writes c) a a') (λa' w'=>CurN.app (CZ L) m (decs a' L) w') ?_ ?_
   ·obtain⟨xs,θ,h0⟩:=bV h0
    ·obtain⟨zs,t1,t2,t3,_⟩:=canon h0;exact⟨zs,t1,(Reads.tw G θ).congr t2,t3,G.1,rfl,dV.refl _ _⟩
   ·rintro a1 w1 ⟨xs,t1,t2,t3,hN,hd,hs⟩
    have hr:=hr.get t1 w1 t3;rw [qQ,iP]at hr;refine ih _ a1 w1 _ _ ((G.keep hs hN).zip t2) H hr λz e' a' w' hz h1 h2 h3=>?_
    cases z with
    | normal=>
     obtain⟨ι,κ⟩:=hz;obtain⟨ys,μ,ι⟩:=bV ι
     ·rw [μ]at κ;obtain⟨zs,u1,u2,u3,u4⟩:=canon ι;have δ:=(Reads.tw h1 μ).congr u2;refine⟨⟨zs,u1,δ,u3,h1.1,h2.trans hd,hs.trans h3⟩,?_⟩;rw [Ar u1 δ,Ar t1 t2,u4];exact κ
    | ret=>exact Z .ret e' a' w' hz h1 (h2.trans hd) (hs.trans h3)
    | exit i=>exact Z (.exit i) e' a' w' hz h1 (h2.trans hd) (hs.trans h3)
 | rangeFunc=>intro e a w Q Q' G _ h Z;exact h.elim
 | scope=>intro e a w Q Q' G _ h Z;exact h.elim
 | label=>intro e a w Q Q' G _ h Z;exact h.elim
 | goto=>intro e a w Q Q' G _ h Z;exact h.elim
 | refuse=>intro e a w Q Q' G _ h Z;exact h.elim
def Dr:∀{L:List Kd} {R:Cur L} {xs:List SV} {w:World} (acc G:List SV),Cur.app L R xs w->SV.aS G=SV.aS acc->
  ly L R G (.returned (valOf (acc++xs))) w
 | [],R,[],w,acc,G,h,ha=>by
  refine⟨?_,h⟩;rw [O5,kz ha,<-kz rfl]
 | [],R,_::_,w,acc,G,h,ha=>h.elim
 | k::L,R,[],w,acc,G,h,ha=>h.elim
 | k::L,R,x::xs,w,acc,G,h,ha=>by
  rw [Cur.app]at h;obtain⟨t,H,h⟩:=bV h
  ·refine⟨t,?_⟩;have app:∀(p q:List SV),SV.aS (p++q)=SV.aS p++SV.aS q:=by
    intro p q;induction p with
    | nil=>rfl
    | cons y p J=>simp [SV.aS,J]
   have :=Dr (acc++[x]) (G++[k.sv t]) h (by rw [app,app,ha];simp [SV.aS,Kd.C3 H]);simpa using this
@[reducible] def aj:Nat->List SV->Env
 | _,[]=>[]
 | n,x::xs=>(n,x)::aj (n+1) xs
def xR:∀{xs:List SV} {n t:Nat} {x:SV},look (aj n xs) t=some x->∃j,t=n+j/\xs[j]?=some x
 | [],n,t,x,h=>by simp [aj,look]at h
 | y::H,n,t,x,h=>by
  simp only [aj,look]at h;split at h
  ·rename_i heq;have :=lf heq;subst this;cases h;exact⟨0,rfl,rfl⟩
  ·obtain⟨j,J,G⟩:=xR h;exact⟨j+1,by omega,by simpa using G⟩
def Bk:∀{l:List SV} {j:Nat} {z:SV},l[j]?=some z->(SV.aS l)[j]?=some z.val
 | [],j,z,h=>by simp at h
 | p::l,0,z,h=>by simp at h;subst h;rfl
 | p::l,j+1,z,h=>by simp at h;simpa [SV.aS]using Bk h
def Bj:∀(l:List SV),(SV.aS l).length=l.length
 | []=>rfl
 | _::l=>by simp [SV.aS,Bj l]
def pS {T:ef}{N:Nat}{e:Env}{a:Act}{w:World}(G:aF N e a){g:ResultVar->Sem Value}
  (J:∀t,g (.tmp t)=pure (a.tmps.getD t undef)) (H:∀b t,g (.cell b t)=(do loadVar t (<-asAddr (a.tmps.getD b undef)))):
  ∀{L:List RI} {R:Cur (n7 L)},finR T L R e w->∃xs,Cur.app (n7 L) R xs w/\(List.mapM g (L.map RI.rv)).run T.P w= .ok (SV.aS xs) w
 | [],R,h=>⟨[],h,by simp [SV.aS]⟩
 | .tmp s k::L,R,h=>by
  rw [finR]at h;obtain⟨t,ht,h⟩:=bV h
  ·obtain⟨x,hx,β⟩:=Gy ht;obtain⟨xs,h1,h2⟩:=pS G J H h;refine⟨x::xs,?_,?_⟩
   ·show Cur.app (k::n7 L) R (x::xs) w;rw [Cur.app,β];exact h1
   ·simp only [O3,List.mapM_cons,RI.rv,J,OT,OV,OE,h2,SV.aS,G.2 _ _ hx]
 | .cell s t k::L,R,h=>by
  rw [finR]at h;obtain⟨b,off,hx,hs,h⟩:=FD h
  ·obtain⟨x,hc,h⟩:=h;obtain⟨xs,h1,h2⟩:=pS G J H h;refine⟨k.sv x::xs,?_,?_⟩
   ·show Cur.app (k::n7 L) R (k.sv x::xs) w;rw [Cur.app,Kd.Hn];exact h1
   ·have Z:=qX hs hc;simp only [Instr.loadAt,Instr.sureAddr,OT,OV,OE]at Z;have hv:=G.2 _ _ hx;simp only [O3,List.mapM_cons,RI.rv,H,OT,OV,OE,hv,SV.val,asAddr,Z,h2,SV.aS]
 | .agg s t::L,R,h=>by
  rw [finR]at h;unfold aggR at h;split at h
  ·rename_i b off hx;have key:yz (T.und t)=true->∀{n bb:Nat} {z:Value} {cs:List Value},T.inf t=some (z,n,bb)->cs.length=n->(∀j,j< n->w.cell? ⟨b,off+j,none⟩=cs[j]?)->finR T L (R (.agg cs.toArray)) e w->
     ∃xs,Cur.app (n7 (.agg s t::L)) R xs w/\(List.mapM g ((.agg s t::L).map RI.rv)).run T.P w= .ok (SV.aS xs) w:=by
    intro hs n bb z cs hi Z hc h;obtain⟨xs,h1,h2⟩:=pS G J H h;refine⟨.v (.agg cs.toArray)::xs,h1,?_⟩;have α:=ji (jg hs w) hi Z hc;simp only [Instr.loadAt,Instr.sureAddr,OT,OV,OE]at α;have hv:=G.2 _ _ hx;simp only [O3,List.mapM_cons,RI.rv,H,OT,OV,OE,hv,SV.val,asAddr,α,h2,SV.aS]
   split at h
   ·rename_i ks z n bb hs hk hi;split at h
    ·rename_i hn;have hn:=lf hn;rw [m8]at hn;obtain⟨ys,Z,hc,h⟩:=ExL.get h;exact key hs hi (by rw [ic,Z,hn]) (λj hj=>hc.get j (by omega)) h
    ·exact h.elim
   ·rename_i z n bb hs hk hi;obtain⟨cs,Z,hc,h⟩:=h;exact key hs hi Z hc h
   ·exact h.elim
  ·exact h.elim
def sd {T:ef}{N:Nat}{e:Env}{a:Act}{fn:Func}{L:List RI}{R:Cur (n7 L)}{w:World}(G:aF N e a)(hr:fn.results=(L.map RI.rv).toArray)(h:finR T L R e w):
  ∃xs,Cur.app (n7 L) R xs w/\(results fn a.tmps).run T.P w= .ok (valOf xs) w:=by
 unfold results;rw [hr,List.mapM_toArray];simp only [OT,Sem.run_map];obtain⟨xs,H,J⟩:=pS G (g:=λ| ResultVar.tmp t=>pure (a.tmps.getD t undef) | .cell b t=>do loadVar t (<-asAddr (a.tmps.getD b undef))) (λ _=>rfl) (λ _ _=>rfl) h;refine⟨xs,H,?_⟩;have Z:(List.mapM (m:=Sem) (λx=>match x with | ResultVar.tmp t=>pure (a.tmps.getD t undef) | .cell b t=>do let __do_lift<-asAddr (a.tmps.getD b undef);loadVar t __do_lift) (L.map RI.rv)).run T.P w= .ok (SV.aS xs) w:=J
 erw [Z]
 simp only [OE,OV]
 congr 1
 match xs with
 | []=>rfl
 | [x]=>rfl
 | x::y::ys=>rfl
def r8 {T:ef}(A:Fi){f:Nat}{fn:Func}{c:Code}{N:Nat}{args:List SV}(L:List RI){R:Cur (n7 L)}{w:World}
  (hf:T.P.funcs[f]?=some fn) (hb:fn.body=some c) (hn:fn.ntmps=N) (hr:fn.results=(L.map RI.rv).toArray)
  (G:(okCode T A N c&&decide (args.length<=N))=true) (h:vc T A c (aj 0 args) w (fin T L R)):Calls T.P f (SV.aS args).toArray w (aw (n7 L) R):=by
 simp only [OA,OK]at G;refine calls_of_wp hf hb (Il c _ _ w _ _ ⟨?_,?_⟩ G.1 h ?_)
 ·have :=G.2;simp [Bj,hn];omega
 ·intro t x H;obtain⟨j,hj,H⟩:=xR H;have J:=Bk H;have α:j< (SV.aS args).length:=by
   rcases Qi j (SV.aS args).length with h | h
   ·exact h
   ·rw [Ru h]at J;cases J
  have:t=j:=by omega
  subst this;simp only [Array.getD_eq_getD_getElem?];rw [Array.getElem?_append_left (by simpa using α),Rr,J];rfl
 ·intro x e' a' w' H Z hd hs;cases x with
  | exit i=>exact H.elim
  | normal=>
   obtain⟨xs,J,h2⟩:=sd Z hr H;exact⟨hd,_,h2,Dr [] [] J rfl⟩
  | ret=>
   obtain⟨xs,J,h2⟩:=sd Z hr H;exact⟨hd,_,h2,Dr [] [] J rfl⟩
set_option linter.unusedVariables false
set_option linter.constructorNameAsVariable false
def zA (a b c d):type_of% (@bindK.eq_1 a b c d):=rfl
def zl (a b c):type_of% (@bindK.eq_2 a b c):=rfl
def Bb (a b c):type_of% (@optK.eq_1 a b c):=rfl
def A7 (a b c):type_of% (@optN.eq_1 a b c):=rfl
def Bo (a b):type_of% (@optN.eq_2 a b):=rfl
def yw (a b):type_of% (@boolK.eq_1 a b):=rfl
def yN (a b):type_of% (@boolK.eq_2 a b):=rfl
def xa (a b c):type_of% (@guardG.eq_1 a b c):=rfl
def xq (a b c):type_of% (@guardG.eq_2 a b c):=rfl
def wQ (a b c d e):type_of% (@guardG.eq_3 a b c d e):=rfl
def wC (a b c d e):type_of% (@guardG.eq_4 a b c d e):=rfl
def zf (a b c d e):type_of% (@vcOps.eq_1 a b c d e):=rfl
def yv (a b c d e f g):type_of% (@vcOps.eq_2 a b c d e f g):=rfl
def sS (a b c d e):type_of% (@runLoadH.eq_1 a b c d e):=rfl
def ta (a b c d e):type_of% (@runLoadH.eq_2 a b c d e):=rfl
def sX (a b c d e):type_of% (@runLoadH.eq_3 a b c d e):=rfl
def rF (a b c d e f):type_of% (@rh.eq_1 a b c d e f):=rfl
def Ch (a b c d e):type_of% (@runH.eq_1 a b c d e):=rfl
def BB (a b c d):type_of% (@runH.eq_2 a b c d):=rfl
def vK (a b c d e):type_of% (@tW.eq_1 a b c d e):=rfl
def wA (a b c d e):type_of% (@n8.eq_1 a b c d e):=rfl
def AV (a b):type_of% (@runK.eq_1 a b):=rfl
def Cm (a b):type_of% (@runK.eq_2 a b):=rfl
def AL (a b):type_of% (@runK.eq_3 a b):=rfl
def z7 (a b):type_of% (@qA.eq_1 a b):=rfl
def zz (a b):type_of% (@qA.eq_2 a b):=rfl
def Aa (a b):type_of% (@qA.eq_3 a b):=rfl
def C9 (a b c d e f):type_of% (@vcP.eq_1 a b c d e f):=rfl
def CT (a b c d e f g h):type_of% (@vcP.eq_2 a b c d e f g h):=rfl
def C0 (a b c d e f g h i):type_of% (@vcP.eq_3 a b c d e f g h i):=rfl
def Ct (a b c d e f g h i j):type_of% (@vcP.eq_4 a b c d e f g h i j):=rfl
def yP (a b c):type_of% (@planK.eq_1 a b c):=rfl
def Gb (a b c):type_of% (@xK.eq_1 a b c):=rfl
def FB (a b c):type_of% (@xK.eq_2 a b c):=rfl
def Fa (a b c d):type_of% (@xK.eq_3 a b c d):=rfl
def Bm (a b c):type_of% (@cutK.eq_1 a b c):=rfl
def BX (a b c d):type_of% (@cutK.eq_2 a b c d):=rfl
def yS (a b):type_of% (@condK.eq_1 a b):=rfl
def yO (a b):type_of% (@condK.eq_2 a b):=rfl
def yH (a b c):type_of% (@condK.eq_3 a b c):=rfl
def Fl (a b c d e):type_of% (@vc.eq_1 a b c d e):=rfl
def Fc (a b c d e f g):type_of% (@vc.eq_2 a b c d e f g):=rfl
def F9 (a b c d e f g):type_of% (@vc.eq_3 a b c d e f g):=rfl
def FC (a b c d e f g):type_of% (@vc.eq_4 a b c d e f g):=rfl
def FH (a b c d e f g h):type_of% (@vc.eq_5 a b c d e f g h):=rfl
def Gi (a b c d e f g):type_of% (@vc.eq_6 a b c d e f g):=rfl
def Ga (a b c d e f):type_of% (@vc.eq_7 a b c d e f):=rfl
def FV (a b c d e f):type_of% (@vc.eq_8 a b c d e f):=rfl
def FJ (a b c d e):type_of% (@vc.eq_9 a b c d e):=rfl
def wH (a):type_of% (@forceE.eq_1 a):=rfl
def xi (a b c):type_of% (@forceE.eq_2 a b c):=rfl
def BW (a b c d):type_of% (@J'.eq_1 a b c d):=rfl
def AF (a b c):type_of% (@adrK.eq_1 a b c):=rfl
def zI (a b c d e):type_of% (@runAR.eq_1 a b c d e):=rfl
def zJ (a b c d e):type_of% (@runAR.eq_2 a b c d e):=rfl
def B7 (a b c d):type_of% (@finR.eq_1 a b c d):=rfl
def Be (a b c d e f g):type_of% (@finR.eq_2 a b c d e f g):=rfl
def AW (a b c d e f g h):type_of% (@finR.eq_3 a b c d e f g h):=rfl
def Br (a b c d e f g):type_of% (@finR.eq_4 a b c d e f g):=rfl
def CG (a b c d e):type_of% (@fin.eq_2 a b c d e):=rfl
def Dh (a b c d e):type_of% (@fin.eq_3 a b c d e):=rfl
def sZ (a b c):type_of% (@CurN.app.eq_1 a b c):=rfl
def sV (a b c d e f):type_of% (@CurN.app.eq_2 a b c d e f):=rfl
def tb (a b c d):type_of% (@CurN.app.eq_3 a b c d):=rfl
def AJ (a b c d e):type_of% (@A1.eq_1 a b c d e):=rfl
def Ah (a b c d):type_of% (@runOR.eq_1 a b c d):=rfl
def yM (a b c d e):type_of% (@runOR.eq_2 a b c d e):=rfl
def zj (a b c d):type_of% (@runOR.eq_3 a b c d):=rfl
def zp (a b c d e f):type_of% (@runOR.eq_4 a b c d e f):=rfl
def zP (a b c d e):type_of% (@runOR.eq_5 a b c d e):=rfl
def y7 (a b c d e f):type_of% (@runOR.eq_6 a b c d e f):=rfl
def zS (a b c d e):type_of% (@runOR.eq_7 a b c d e):=rfl
def zT (a b c d e):type_of% (@runOR.eq_8 a b c d e):=rfl
def yY (a b c):type_of% (@runOR.eq_9 a b c):=rfl
def wz (a b c d e f g):type_of% (@runOR.eq_10 a b c d e f g):=rfl
def wK (a b c d e f g):type_of% (@runOR.eq_11 a b c d e f g):=rfl
def xr (a b c d e f):type_of% (@runOR.eq_12 a b c d e f):=rfl
def xk (a b c d e f):type_of% (@runOR.eq_13 a b c d e f):=rfl
def wE (a b c d e f g h i):type_of% (@runOR.eq_14 a b c d e f g h i):=rfl
def wD (a b c d e):type_of% (@runOR.eq_15 a b c d e):=rfl
def xb (a b c d e):type_of% (@runOR.eq_16 a b c d e):=rfl
def wm (a b c d e):type_of% (@runOR.eq_17 a b c d e):=rfl
def wu (a b c d e f g):type_of% (@runOR.eq_18 a b c d e f g):=rfl
def wT (a b c d e f g h):type_of% (@runOR.eq_19 a b c d e f g h):=rfl
def wL (a b c d e):type_of% (@runOR.eq_20 a b c d e):=rfl
def wv (a b c d e f):type_of% (@runOR.eq_21 a b c d e f):=rfl
def xp (a b c d e f):type_of% (@runOR.eq_22 a b c d e f):=rfl
def wJ (a b c d):type_of% (@yZ.eq_1 a b c d):=rfl
def yy (a b):type_of% (@runPR.eq_1 a b):=rfl
def Am (a b c):type_of% (@runPR.eq_2 a b c):=rfl
def zr (a b c):type_of% (@runPR.eq_3 a b c):=rfl
def y6 (a b):type_of% (@runPR.eq_4 a b):=rfl
def yF (a b):type_of% (@runPR.eq_5 a b):=rfl
def Ap (a b):type_of% (@runPR.eq_6 a b):=rfl
def yT (a b):type_of% (@runPR.eq_7 a b):=rfl
def zV (a b c):type_of% (@runPR.eq_8 a b c):=rfl
def yq (a b c d):type_of% (@runPR.eq_9 a b c d):=rfl
def wP (a b c d e):type_of% (@runPR.eq_10 a b c d e):=rfl
def wU (a b):type_of% (@runPR.eq_11 a b):=rfl
def wW (a b c d):type_of% (@runPR.eq_12 a b c d):=rfl
def wM (a b):type_of% (@runPR.eq_13 a b):=rfl
def wX (a b):type_of% (@runPR.eq_14 a b):=rfl
def sH (a b c d e f):type_of% (@uZ.eq_1 a b c d e f):=rfl
def wj (a b c d e):type_of% (@runLoad.eq_1 a b c d e):=rfl
def uV (a b c d e):type_of% (@runLoad.eq_2 a b c d e):=rfl
def vS (a b c d e):type_of% (@runLoad.eq_3 a b c d e):=rfl
def rE (a b c d e f g):type_of% (@rN.eq_1 a b c d e f g):=rfl
def tq (a b c d e):type_of% (@runStore.eq_1 a b c d e):=rfl
def sR (a b c d e f):type_of% (@runStore.eq_2 a b c d e f):=rfl
def sI (a b c d e f):type_of% (@runStore.eq_3 a b c d e f):=rfl
def sN (a b c d e f g):type_of% (@ux.eq_1 a b c d e f g):=rfl
def DE (a b):type_of% (@NJ.eq_1 a b):=rfl
def Dp (a):type_of% (@ExL.eq_1 a):=rfl
def DF (a b c):type_of% (@ExL.eq_2 a b c):=rfl
def Dj (a b):type_of% (@okC.eq_1 a b):=rfl
def Cy (a b):type_of% (@okC.eq_2 a b):=rfl
def Da (a b):type_of% (@okC.eq_3 a b):=rfl
def Dl (a b):type_of% (@okC.eq_4 a b):=rfl
def CL (a b):type_of% (@okC.eq_5 a b):=rfl
def CE (a b):type_of% (@okC.eq_6 a b):=rfl
def DC (a):type_of% (@okC.eq_7 a):=rfl
def CS (a):type_of% (@okC.eq_8 a):=rfl
def Cv (a b c):type_of% (@okC.eq_9 a b c):=rfl
def BI (a b):type_of% (@okC.eq_10 a b):=rfl
def BJ (a b):type_of% (@okC.eq_11 a b):=rfl
def Bh (a b):type_of% (@okC.eq_12 a b):=rfl
def yx (a b):type_of% (@oneOk.eq_1 a b):=rfl
def zg (a b):type_of% (@oneOk.eq_2 a b):=rfl
def yE (a b):type_of% (@oneOk.eq_3 a b):=rfl
def yK (a b):type_of% (@oneOk.eq_4 a b):=rfl
def y4 (a b):type_of% (@oneOk.eq_5 a b):=rfl
def yA (a b):type_of% (@oneOk.eq_6 a b):=rfl
def Aj (a):type_of% (@oneOk.eq_7 a):=rfl
def zk (a):type_of% (@oneOk.eq_8 a):=rfl
def An (a b c):type_of% (@oneOk.eq_9 a b c):=rfl
def xf (a b):type_of% (@oneOk.eq_10 a b):=rfl
def wO (a):type_of% (@okAllC.eq_1 a):=rfl
def wN (a b c d):type_of% (@okAllC.eq_2 a b c d):=rfl
def wq (a b):type_of% (@forceL.eq_1 a b):=rfl
def xm (a b c d):type_of% (@forceL.eq_2 a b c d):=rfl
def vy (a b):type_of% (@Cur.app.eq_1 a b):=rfl
def ve (a b c d e f):type_of% (@Cur.app.eq_2 a b c d e f):=rfl
def xg (a):type_of% (@Cur.mk.eq_1 a):=rfl
def wS (a b c):type_of% (@Cur.mk.eq_2 a b c):=rfl
def Cc (a):type_of% (@AllT.eq_1 a):=rfl
def Bi (a b c):type_of% (@AllT.eq_2 a b c):=rfl
attribute [go_sem ↓] zA zl Bb A7 Bo yw yN xa xq wQ wC zf yv sS ta sX rF Ch BB vK wA AV Cm AL z7 zz Aa C9 CT C0 Ct yP Gb FB Fa Bm BX yS yO yH Fl Fc F9 FC FH Gi Ga FV FJ wH xi BW AF zI zJ B7 Be AW Br CG Dh sZ sV tb AJ Ah yM zj zp zP y7 zS zT yY wz wK xr xk wE wD xb wm wu wT wL wv xp wJ yy Am zr y6 yF Ap yT zV yq wP wU wW wM wX sH wj uV vS rE tq sR sI sN DE Dp DF Dj Cy Da Dl CL CE DC CS Cv BI BJ Bh yx zg yE yK y4 yA Aj zk An xf wO wN wq xm vy ve xg wS Cc Bi
@[reducible] noncomputable def JB:List (Nat×TypeDesc):=[(3,(TypeDesc.int IntKind.i64)),
 (9,TypeDesc.string),
 (5,(TypeDesc.int IntKind.u8)),
 (4,TypeDesc.bool),
 (0,(TypeDesc.tuple #[])),
 (1,(TypeDesc.func #[] #[] false)),
 (21,(TypeDesc.int IntKind.i32)),
 (22,(TypeDesc.slice 9)),
 (23,(TypeDesc.tuple #[22,4])),
 (31,(TypeDesc.slice 22)),
 (39,(TypeDesc.func #[9] #[4] false)),
 (43,(TypeDesc.tuple #[9,4])),
 (45,(TypeDesc.pointer 61)),
 (46,(TypeDesc.tuple #[45,4])),
 (51,(TypeDesc.pointer 53)),
 (53,(TypeDesc.struct #[{name:= "list",type:=22,offset:=0,embedded:=false,tag:= "",pkgPath:= "loop.example/g01175/impl",byteOffset:=0},{name:= "bad",type:=4,offset:=1,embedded:=false,tag:= "",pkgPath:= "loop.example/g01175/impl",byteOffset:=24}])),
 (58,(TypeDesc.struct #[{name:= "next",type:=3,offset:=0,embedded:=false,tag:= "",pkgPath:= "loop.example/g01175/impl",byteOffset:=0}])),
 (59,(TypeDesc.pointer 129)),
 (61,(TypeDesc.struct #[{name:= "maker",type:=58,offset:=0,embedded:=true,tag:= "",pkgPath:= "loop.example/g01175/impl",byteOffset:=0},{name:= "text",type:=9,offset:=1,embedded:=false,tag:= "",pkgPath:= "loop.example/g01175/impl",byteOffset:=8},{name:= "l",type:=59,offset:=2,embedded:=false,tag:= "",pkgPath:= "loop.example/g01175/impl",byteOffset:=24}])),
 (64,(TypeDesc.pointer 70)),
 (65,(TypeDesc.tuple #[64,4])),
 (68,(TypeDesc.slice 64)),
 (70,(TypeDesc.struct #[{name:= "kind",type:=5,offset:=0,embedded:=false,tag:= "",pkgPath:= "loop.example/g01175/impl",byteOffset:=0},{name:= "a",type:=5,offset:=1,embedded:=false,tag:= "",pkgPath:= "loop.example/g01175/impl",byteOffset:=1},{name:= "b",type:=5,offset:=2,embedded:=false,tag:= "",pkgPath:= "loop.example/g01175/impl",byteOffset:=2},{name:= "kids",type:=68,offset:=3,embedded:=false,tag:= "",pkgPath:= "loop.example/g01175/impl",byteOffset:=8}])),
 (73,(TypeDesc.slice 96)),
 (74,(TypeDesc.tuple #[73,4])),
 (77,(TypeDesc.pointer 79)),
 (79,(TypeDesc.struct #[{name:= "list",type:=31,offset:=0,embedded:=false,tag:= "",pkgPath:= "loop.example/g01175/impl",byteOffset:=0},{name:= "wrong",type:=22,offset:=1,embedded:=false,tag:= "",pkgPath:= "loop.example/g01175/impl",byteOffset:=24},{name:= "bad",type:=4,offset:=2,embedded:=false,tag:= "",pkgPath:= "loop.example/g01175/impl",byteOffset:=48}])),
 (89,(TypeDesc.tuple #[5,4])),
 (91,(TypeDesc.int IntKind.u32)),
 (96,(TypeDesc.struct #[{name:= "label",type:=9,offset:=0,embedded:=false,tag:= "",pkgPath:= "loop.example/g01175/spec",byteOffset:=0},{name:= "result",type:=9,offset:=1,embedded:=false,tag:= "",pkgPath:= "loop.example/g01175/spec",byteOffset:=16}])),
 (107,(TypeDesc.slice 5)),
 (113,(TypeDesc.array 26 3)),
 (116,(TypeDesc.tuple #[9,9])),
 (119,(TypeDesc.slice 122)),
 (122,(TypeDesc.struct #[{name:= "kind",type:=5,offset:=0,embedded:=false,tag:= "",pkgPath:= "loop.example/g01175/spec",byteOffset:=0},{name:= "over",type:=5,offset:=1,embedded:=false,tag:= "",pkgPath:= "loop.example/g01175/spec",byteOffset:=1},{name:= "name",type:=5,offset:=2,embedded:=false,tag:= "",pkgPath:= "loop.example/g01175/spec",byteOffset:=2},{name:= "rest",type:=9,offset:=3,embedded:=false,tag:= "",pkgPath:= "loop.example/g01175/spec",byteOffset:=8},{name:= "stays",type:=4,offset:=4,embedded:=false,tag:= "",pkgPath:= "loop.example/g01175/spec",byteOffset:=24}])),
 (126,(TypeDesc.slice 3)),
 (127,(TypeDesc.slice 130)),
 (129,(TypeDesc.struct #[{name:= "own",type:=126,offset:=0,embedded:=false,tag:= "",pkgPath:= "loop.example/g01175/impl",byteOffset:=0},{name:= "threads",type:=127,offset:=1,embedded:=false,tag:= "",pkgPath:= "loop.example/g01175/impl",byteOffset:=24}])),
 (130,(TypeDesc.pointer 191)),
 (131,(TypeDesc.slice 134)),
 (134,(TypeDesc.struct #[{name:= "kind",type:=5,offset:=0,embedded:=false,tag:= "",pkgPath:= "loop.example/g01175/impl",byteOffset:=0},{name:= "a",type:=3,offset:=1,embedded:=false,tag:= "",pkgPath:= "loop.example/g01175/impl",byteOffset:=8},{name:= "b",type:=3,offset:=2,embedded:=false,tag:= "",pkgPath:= "loop.example/g01175/impl",byteOffset:=16},{name:= "rest",type:=59,offset:=3,embedded:=false,tag:= "",pkgPath:= "loop.example/g01175/impl",byteOffset:=24},{name:= "again",type:=4,offset:=4,embedded:=false,tag:= "",pkgPath:= "loop.example/g01175/impl",byteOffset:=32}])),
 (137,(TypeDesc.pointer 139)),
 (139,(TypeDesc.struct #[{name:= "s",type:=9,offset:=0,embedded:=false,tag:= "",pkgPath:= "loop.example/g01175/impl",byteOffset:=0},{name:= "at",type:=3,offset:=1,embedded:=false,tag:= "",pkgPath:= "loop.example/g01175/impl",byteOffset:=16},{name:= "bad",type:=4,offset:=2,embedded:=false,tag:= "",pkgPath:= "loop.example/g01175/impl",byteOffset:=24}])),
 (141,(TypeDesc.pointer 58)),
 (145,(TypeDesc.slice 149)),
 (147,(TypeDesc.func #[3] #[9,4] false)),
 (149,(TypeDesc.struct #[{name:= "over",type:=3,offset:=0,embedded:=false,tag:= "",pkgPath:= "loop.example/g01175/impl",byteOffset:=0},{name:= "give",type:=147,offset:=1,embedded:=false,tag:= "",pkgPath:= "loop.example/g01175/impl",byteOffset:=8}])),
 (172,(TypeDesc.func #[3] #[4] false)),
 (179,(TypeDesc.map 3 3)),
 (183,(TypeDesc.func #[64] #[4] false)),
 (189,(TypeDesc.slice 59)),
 (191,(TypeDesc.struct #[{name:= "kind",type:=5,offset:=0,embedded:=false,tag:= "",pkgPath:= "loop.example/g01175/impl",byteOffset:=0},{name:= "a",type:=3,offset:=1,embedded:=false,tag:= "",pkgPath:= "loop.example/g01175/impl",byteOffset:=8},{name:= "b",type:=3,offset:=2,embedded:=false,tag:= "",pkgPath:= "loop.example/g01175/impl",byteOffset:=16},{name:= "rest",type:=59,offset:=3,embedded:=false,tag:= "",pkgPath:= "loop.example/g01175/impl",byteOffset:=24},{name:= "parts",type:=189,offset:=4,embedded:=false,tag:= "",pkgPath:= "loop.example/g01175/impl",byteOffset:=32}])),
 (193,(TypeDesc.func #[130] #[4] false)),
 (200,(TypeDesc.tuple #[3,3])),
 (202,(TypeDesc.pointer 205)),
 (203,(TypeDesc.map 3 5)),
 (205,(TypeDesc.struct #[{name:= "env",type:=203,offset:=0,embedded:=false,tag:= "",pkgPath:= "loop.example/g01175/impl",byteOffset:=0},{name:= "taken",type:=91,offset:=1,embedded:=false,tag:= "",pkgPath:= "loop.example/g01175/impl",byteOffset:=8},{name:= "bad",type:=4,offset:=2,embedded:=false,tag:= "",pkgPath:= "loop.example/g01175/impl",byteOffset:=12},{name:= "owns",type:=3,offset:=3,embedded:=false,tag:= "",pkgPath:= "loop.example/g01175/impl",byteOffset:=16}])),
 (214,(TypeDesc.pointer 216)),
 (216,(TypeDesc.struct #[{name:= "broken",type:=4,offset:=0,embedded:=false,tag:= "",pkgPath:= "loop.example/g01175/spec",byteOffset:=0},{name:= "once",type:=4,offset:=1,embedded:=false,tag:= "",pkgPath:= "loop.example/g01175/spec",byteOffset:=1}])),
 (218,(TypeDesc.func #[64] #[] false)),
 (231,(TypeDesc.func #[59] #[4] false)),
 (241,(TypeDesc.pointer 243)),
 (243,(TypeDesc.struct #[{name:= "front",type:=9,offset:=0,embedded:=false,tag:= "",pkgPath:= "loop.example/g01175/spec",byteOffset:=0},{name:= "threads",type:=22,offset:=1,embedded:=false,tag:= "",pkgPath:= "loop.example/g01175/spec",byteOffset:=16}]))]
def Jr:∀p∈JB,Tryz.prog.underlying p.1=some p.2:=by
 unfold JB;refine OO.2 ⟨Tryz.underlying3,OO.2 ⟨Tryz.underlying9,OO.2 ⟨Tryz.underlying5,OO.2 ⟨Tryz.underlying4,OO.2 ⟨Tryz.underlying0,OO.2 ⟨Tryz.underlying1,OO.2 ⟨Tryz.underlying21,OO.2 ⟨Tryz.underlying22,OO.2 ⟨Tryz.underlying23,OO.2 ⟨Tryz.underlying31,OO.2 ⟨Tryz.underlying39,OO.2 ⟨Tryz.underlying43,OO.2 ⟨Tryz.underlying45,OO.2 ⟨Tryz.underlying46,OO.2 ⟨Tryz.underlying51,OO.2 ⟨Tryz.underlying53,OO.2 ⟨Tryz.underlying58,OO.2 ⟨Tryz.underlying59,OO.2 ⟨Tryz.underlying61,OO.2 ⟨Tryz.underlying64,OO.2 ⟨Tryz.underlying65,OO.2 ⟨Tryz.underlying68,OO.2 ⟨Tryz.underlying70,OO.2 ⟨Tryz.underlying73,OO.2 ⟨Tryz.underlying74,OO.2 ⟨Tryz.underlying77,OO.2 ⟨Tryz.underlying79,OO.2 ⟨Tryz.underlying89,OO.2 ⟨Tryz.underlying91,OO.2 ⟨Tryz.underlying96,OO.2 ⟨Tryz.underlying107,OO.2 ⟨Tryz.underlying113,OO.2 ⟨Tryz.underlying116,OO.2 ⟨Tryz.underlying119,OO.2 ⟨Tryz.underlying122,OO.2 ⟨Tryz.underlying126,OO.2 ⟨Tryz.underlying127,OO.2 ⟨Tryz.underlying129,OO.2 ⟨Tryz.underlying130,OO.2 ⟨Tryz.underlying131,OO.2 ⟨Tryz.underlying134,OO.2 ⟨Tryz.underlying137,OO.2 ⟨Tryz.underlying139,OO.2 ⟨Tryz.underlying141,OO.2 ⟨Tryz.underlying145,OO.2 ⟨Tryz.underlying147,OO.2 ⟨Tryz.underlying149,OO.2 ⟨Tryz.underlying172,OO.2 ⟨Tryz.underlying179,OO.2 ⟨Tryz.underlying183,OO.2 ⟨Tryz.underlying189,OO.2 ⟨Tryz.underlying191,OO.2 ⟨Tryz.underlying193,OO.2 ⟨Tryz.underlying200,OO.2 ⟨Tryz.underlying202,OO.2 ⟨Tryz.underlying203,OO.2 ⟨Tryz.underlying205,OO.2 ⟨Tryz.underlying214,OO.2 ⟨Tryz.underlying216,OO.2 ⟨Tryz.underlying218,OO.2 ⟨Tryz.underlying231,OO.2 ⟨Tryz.underlying241,OO.2 ⟨Tryz.underlying243,List.forall_mem_nil _⟩⟩⟩⟩⟩⟩⟩⟩⟩⟩⟩⟩⟩⟩⟩⟩⟩⟩⟩⟩⟩⟩⟩⟩⟩⟩⟩⟩⟩⟩⟩⟩⟩⟩⟩⟩⟩⟩⟩⟩⟩⟩⟩⟩⟩⟩⟩⟩⟩⟩⟩⟩⟩⟩⟩⟩⟩⟩⟩⟩⟩⟩⟩
def Ie (t:Nat)(d:TypeDesc)(h:nR JB t=some d):Tryz.prog.underlying t=some d:=Jr (t,d) (rb h)
@[reducible] noncomputable def I7:List (Nat×(Value×Nat×Nat)):=[(3,(.int .i64 0),1,8),
 (9,(.string ⟨#[]⟩),1,16),
 (5,(.int .u8 0),1,1),
 (4,(.bool false),1,1),
 (1,.nilFunc,1,8),
 (21,(.int .i32 0),1,4),
 (22,(.slice none 0 0),1,24),
 (31,(.slice none 0 0),1,24),
 (39,.nilFunc,1,8),
 (45,(.pointer none),1,8),
 (51,(.pointer none),1,8),
 (53,(.agg #[(.slice none 0 0),(.bool false)]),2,32),
 (58,(.agg #[(.int .i64 0)]),1,8),
 (59,(.pointer none),1,8),
 (61,(.agg #[(.int .i64 0),(.string ⟨#[]⟩),(.pointer none)]),3,32),
 (64,(.pointer none),1,8),
 (68,(.slice none 0 0),1,24),
 (70,(.agg #[(.int .u8 0),(.int .u8 0),(.int .u8 0),(.slice none 0 0)]),4,32),
 (73,(.slice none 0 0),1,24),
 (77,(.pointer none),1,8),
 (79,(.agg #[(.slice none 0 0),(.slice none 0 0),(.bool false)]),3,56),
 (91,(.int .u32 0),1,4),
 (96,(.agg #[(.string ⟨#[]⟩),(.string ⟨#[]⟩)]),2,32),
 (107,(.slice none 0 0),1,24),
 (113,(.agg #[(.int .i64 0),(.int .i64 0),(.int .i64 0),(.int .i64 0),(.int .i64 0),(.int .i64 0),(.int .i64 0),(.int .i64 0),(.int .i64 0),(.int .i64 0),(.int .i64 0),(.int .i64 0),(.int .i64 0),(.int .i64 0),(.int .i64 0),(.int .i64 0),(.int .i64 0),(.int .i64 0),(.int .i64 0),(.int .i64 0),(.int .i64 0),(.int .i64 0),(.int .i64 0),(.int .i64 0),(.int .i64 0),(.int .i64 0)]),26,208),
 (119,(.slice none 0 0),1,24),
 (122,(.agg #[(.int .u8 0),(.int .u8 0),(.int .u8 0),(.string ⟨#[]⟩),(.bool false)]),5,32),
 (126,(.slice none 0 0),1,24),
 (127,(.slice none 0 0),1,24),
 (129,(.agg #[(.slice none 0 0),(.slice none 0 0)]),2,48),
 (130,(.pointer none),1,8),
 (131,(.slice none 0 0),1,24),
 (134,(.agg #[(.int .u8 0),(.int .i64 0),(.int .i64 0),(.pointer none),(.bool false)]),5,40),
 (137,(.pointer none),1,8),
 (139,(.agg #[(.string ⟨#[]⟩),(.int .i64 0),(.bool false)]),3,32),
 (141,(.pointer none),1,8),
 (145,(.slice none 0 0),1,24),
 (147,.nilFunc,1,8),
 (149,(.agg #[(.int .i64 0),.nilFunc]),2,16),
 (172,.nilFunc,1,8),
 (179,(.map none),1,8),
 (183,.nilFunc,1,8),
 (189,(.slice none 0 0),1,24),
 (191,(.agg #[(.int .u8 0),(.int .i64 0),(.int .i64 0),(.pointer none),(.slice none 0 0)]),5,56),
 (193,.nilFunc,1,8),
 (202,(.pointer none),1,8),
 (203,(.map none),1,8),
 (205,(.agg #[(.map none),(.int .u32 0),(.bool false),(.int .i64 0)]),4,24),
 (214,(.pointer none),1,8),
 (216,(.agg #[(.bool false),(.bool false)]),2,2),
 (218,.nilFunc,1,8),
 (231,.nilFunc,1,8),
 (241,(.pointer none),1,8),
 (243,(.agg #[(.string ⟨#[]⟩),(.slice none 0 0)]),2,40)]
def Ix:I7.map (λp=>(Tryz.prog.info? p.1).map λi=>(i.zero,i.size,i.bytes))=I7.map (λp=>some (some p.2.1,p.2.2.1,p.2.2.2)):=by kernel_rfl
def JR (t:Nat)(z:Value)(s b:Nat)(h:nR I7 t=some (z,s,b)):∃i,Tryz.prog.info? t=some i/\i.zero=some z/\i.size=s/\i.bytes=b:=by
 have H:=rb h;have G:=List.map_inj_left.1 Ix _ H;cases hi:Tryz.prog.info? t with
 | none=>rw [hi]at G;cases G
 | some i=>
  rw [hi]at G;simp only [P8,PJ,Prod.mk.injEq]at G;exact⟨i,rfl,G.1,G.2.1,G.2.2⟩
@[reducible] def gN:List Nat:=[3,4,5,6,7,8,9,10,11,12,13,14,15,16,17,18,19,20,21,22,23,24,25,26,27,28,29,30,31,32,33,34,35,36,37,38,39,40,41,42,43,44,45,46,47,48,49,50,51,52,53,54,55,56,57,58,59,60,61,62,63,64,65,66,67,68,69,70,71,72,73,74,75,76,77,78,79,80,81,82,83,84,85,86,87,88,89,90,91,92,93,94,95,96,97,98,99,100,101,102,103,104,105,106,107,108,109,110,111,112,113,114,115,116,117,118,119,120,121,122,123,124,125,126,127,128,129,130,131,132,133,134,135,136,137,138,139,140,141,142,143,144,145,146,147,148,149,150,151,152,153,154,155,156,157,158,159,160,161,162,163,164,165,166,167,168,169,170,171,172,173,174,175,176,177,178,179,180,181,182,183,184,185,186,187,188,189,190,191,192,193,194,195,196,197,198,199,200,201,202,203,204,205,206,207,208,209,210,211,212,213,214,215,216,217,218,219,220,221,222,223,224,225,226,227,228,229,230,231,232,233,234,235,236,237,238,239,240,241,242,243,244,245,246,247,248,249,250,251,252,253,254,255,257,258,259,260,261]
def HG:gN.all (λf=>match Tryz.prog.funcs[f]? with | some g=> !g.body.isNone&& !(g.name== "runtime.NumGoroutine") | none=>false)=true:=by kernel_rfl
def I9 (f:Nat)(h:hasR gN f=true):∃g,Tryz.prog.funcs[f]?=some g/\g.body.isNone=false/\(g.name== "runtime.NumGoroutine")=false:=by
 have G:=PL.1 HG f (H3 h);cases H:Tryz.prog.funcs[f]? with
 | none=>rw [H]at G;cases G
 | some g=>rw [H]at G;simp only [OA,QA]at G;exact⟨g,rfl,G.1,G.2⟩
def Fz:Tryz.prog.follows .mixedOrders=true:=by kernel_rfl
@[reducible] noncomputable def aB:ef where
 P:=Tryz.prog
 und:=nR JB
 und_ok:=Ie
 inf:=nR I7
 inf_ok:=JR
 fn:=hasR gN
 fn_ok:=I9
 mixed:=Fz
def NS:aB.P=Tryz.prog:=rfl
@[reducible] def ai (f:Func):Code:=match f.body with
 | some c=>c
 | none=> .skip
attribute [go_sem] NS ai
abbrev Lg (w:World)(b f n:Nat)(cs:List Value)(K:Sb):Prop:=(List.length cs=n/\List.all cs oneV=true/\∀j,j< n->(∃u,World.cell? w ⟨b,f+j,none⟩=some u)/\World.frozen? w ⟨b,f+j,none⟩=false)/\∀G:World,G=World.setCells w b f cs->K G
abbrev db (w:World)(o:Obj)(K:Nat->Sb):Prop:=∀(b:Nat) (G:World),b=Array.size (World.heap w)->G=World.alloc w o->K b G
abbrev bT (v:Value)(K:Nat->Nat->Prop):Prop:=∃(b o:Nat),v=Value.pointer (some ⟨b,o,none⟩)/\K b o
abbrev jQ (v:Value)(i:Int)(K:Nat->Nat->Prop):Prop:=∃(b o n c:Nat),v=Value.slice (some ⟨b,o,none⟩) n c/\0<=i/\i< n/\K b o
abbrev kZ (v:Value)(K:Nat->Prop):Prop:=∃(a:Option Addr) (n c:Nat),v=Value.slice a n c/\K n
abbrev nj (w:World)(b j:Nat)(v:Value)(K:Sb):Prop:=((∃u:Value,World.cell? w ⟨b,j,none⟩=some u)/\World.frozen? w ⟨b,j,none⟩=false)/\∀G:World,G=World.setCell w ⟨b,j,none⟩ v->K G
abbrev bZ (c:Bool)(A B:Prop):Prop:=(c=true->A)/\(c=false->B)
abbrev Gp (c:Bool)(A B:Prop):Prop:=(c=false->A)/\(c=true->B)
abbrev jf (w:World)(K:(Sb)->Sb):Prop:=∃S:Sb,∀w1:World,w1=World.drew w->S w1/\K S w1
abbrev nV (e z y:Nat)(w:World)(v x:Value)(K:Value->Sb):Prop:=∃(base n m:Nat) (xs news:List Value),World.ownsRow w base e z v n xs/\base<=Array.size (World.heap w)/\fp w x m z news/\(n+m<=maxLen/\(n+m)* y<=140737488355328)/\∀(G:Value) (w':World),World.ownsRow w' base e z G (n+m) (xs++news)->World.grownBy w w' (Value.ownBlock v)->(∀b:Nat,Value.ownBlock G=some b->Value.ownBlock v=some b\/Array.size (World.heap w)<=b)->K G w'
abbrev Gd (w:World)(b o:Nat)(K:Int->Prop):Prop:=∃v:Int,World.cell? w ⟨b,o,none⟩=some (.int .i64 v)/\K v
abbrev uX (S:Sb)(b o:Nat)(K:Int->Prop):Prop:=∃v:Int,(∀w',S w'->World.cell? w' ⟨b,o,none⟩=some (.int .i64 v))/\K v
abbrev rG (w:World)(b o:Nat)(K:UInt8->Prop):Prop:=∃v:UInt8,World.cell? w ⟨b,o,none⟩=some (.int .u8 (UInt8.toNat v))/\K v
abbrev GM (S:Sb)(b o:Nat)(K:UInt8->Prop):Prop:=∃v:UInt8,(∀w',S w'->World.cell? w' ⟨b,o,none⟩=some (.int .u8 (UInt8.toNat v)))/\K v
abbrev MZ (w:World)(b o:Nat)(K:aD->Prop):Prop:=∃v:aD,World.cell? w ⟨b,o,none⟩=some (.string (ak v))/\K v
abbrev IY (S:Sb)(b o:Nat)(K:aD->Prop):Prop:=∃v:aD,(∀w',S w'->World.cell? w' ⟨b,o,none⟩=some (.string (ak v)))/\K v
abbrev NG (w:World)(b o:Nat)(K:Bool->Prop):Prop:=∃v:Bool,World.cell? w ⟨b,o,none⟩=some (.bool v)/\K v
abbrev dP (w:World)(b o:Nat)(K:Value->Prop):Prop:=∃v:Value,World.cell? w ⟨b,o,none⟩=some (v)/\K v
abbrev fq (S:Sb)(b o:Nat)(K:Value->Prop):Prop:=∃v:Value,(∀w',S w'->World.cell? w' ⟨b,o,none⟩=some (v))/\K v
abbrev fC (f:Nat)(a:Array Value)(w:World)(K:Sb):Prop:=Sc f a w (aw [] K)
abbrev lg (f:Nat)(a:Array Value)(w:World)(K:Value->Sb):Prop:=Sc f a w (aw [.v] K)
abbrev Er (f:Nat)(a:Array Value)(w:World)(K:Bool->Sb):Prop:=Sc f a w (aw [.b] K)
abbrev KF (f:Nat)(a:Array Value)(w:World)(K:aD->Sb):Prop:=Sc f a w (aw [.s] K)
abbrev Lu (f:Nat)(a:Array Value)(w:World)(K:Int->Sb):Prop:=Sc f a w (aw [.i] K)
abbrev NM (f:Nat)(a:Array Value)(w:World)(K:Value->Bool->Sb):Prop:=Sc f a w (aw [.v,.b] K)
abbrev qu (f:Nat)(a:Array Value)(w:World)(K:aD->Bool->Sb):Prop:=Sc f a w (aw [.s,.b] K)
abbrev Md (f:Nat)(a:Array Value)(w:World)(K:aD->aD->Sb):Prop:=Sc f a w (aw [.s,.s] K)
abbrev yC (a0:Int)(w:World)(K:(Int->Sb)->(Int->World->Nat)->Int->Sb):Prop:=∃(I:Int->Sb) (m:Int->World->Nat),I a0 w/\∀(G:Int) (H:World),I G H->K I m G H
abbrev NO (a0:Int)(Z:Int)(w:World)(K:(Int->Int->Sb)->(Int->Int->World->Nat)->Int->Int->Sb):Prop:=∃(I:Int->Int->Sb) (m:Int->Int->World->Nat),I a0 Z w/\∀(G:Int) (H:Int) (J:World),I G H J->K I m G H J
abbrev zb (a0:Value)(Z:Int)(w:World)(K:(Value->Int->Sb)->(Value->Int->World->Nat)->Value->Int->Sb):Prop:=∃(I:Value->Int->Sb) (m:Value->Int->World->Nat),I a0 Z w/\∀(G:Value) (H:Int) (J:World),I G H J->K I m G H J
abbrev D0 (a0:Bool)(a1:Value)(a2:Int)(w:World)(K:(Bool->Value->Int->Sb)->(Bool->Value->Int->World->Nat)->Bool->Value->Int->Sb):Prop:=∃(I:Bool->Value->Int->Sb) (m:Bool->Value->Int->World->Nat),I a0 a1 a2 w/\∀(G:Bool) (H:Value) (J:Int) (Z:World),I G H J Z->K I m G H J Z
@[simp] theorem N8 (A B:Prop):bZ true A B↔A:=⟨λh=>h.1 rfl,λh=>⟨λ _=>h,(λe=>by cases e)⟩⟩
@[simp] theorem Oc (A B:Prop):bZ false A B↔B:=⟨λh=>h.2 rfl,λh=>⟨(λe=>by cases e),λ _=>h⟩⟩
def tN {n i:Nat}(h:i< n):((n:Int) - ((i:Int)+1)).toNat< ((n:Int) - i).toNat:=by omega
def oL {a b:Nat}{d:Decidable ((a:Int)< b)}(h:@decide _ d=true):a< b:=Int.ofNat_lt.1 (OW h)
def oE {a b:Nat}{d:Decidable ((a:Int)< b)}(h:@decide _ d=false)(k:a<=b):a=b:=by
 have :=OX h;omega
def gE {α:Type}{l:List α}{i:Nat}(h:i< l.length):l[(i:Int).toNat]?=some l[i]:=by rw [OG];exact Ox h
@[simp] theorem N7 (A B:Prop):Gp true A B↔B:=⟨λh=>h.2 rfl,λh=>⟨(λe=>by cases e),λ _=>h⟩⟩
@[simp] theorem N2 (A B:Prop):Gp false A B↔A:=⟨λh=>h.1 rfl,λh=>⟨λ _=>h,(λe=>by cases e)⟩⟩
@[reducible] def a6 (l c:List (Nat×List (Nat×Kd))) (t:List (Nat×Bool×Pl)):Fi:=⟨λn=>nR l n,λn=>nR c n,λn=>nR t n⟩
def Iz {f:Nat}{fn:Func}{w:World}{V:Prop}(A:Fi)(L:List RI)(args:List SV){R:Cur (n7 L)}(H:aB.P.funcs[f]?=some fn)(e:(fn.body,fn.results,okCode aB A fn.ntmps (ai fn)&&decide (args.length<=fn.ntmps),vc aB A (ai fn) (aj 0 args) w (fin aB L R))=(some (ai fn),(L.map RI.rv).toArray,true,V))(h:V):Calls aB.P f (SV.aS args).toArray w (aw (n7 L) R):=by
 injection e with hb e
 injection e with hr e
 injection e with G e
 exact r8 (T:=aB) A L (c:=ai fn) (args:=args) H hb rfl hr G (Eq.mpr e h)
def bn {f:Nat}{fn:Func}{w:World}{A:Fi}{L:List RI}{args:List SV}{R:Cur (n7 L)}(H:aB.P.funcs[f]?=some fn)(e:(fn.body,fn.results,okCode aB A fn.ntmps (ai fn)&&decide (args.length<=fn.ntmps))=(some (ai fn),(L.map RI.rv).toArray,true))(h:vc aB A (ai fn) (aj 0 args) w (fin aB L R)):Calls aB.P f (SV.aS args).toArray w (aw (n7 L) R):=by
 injection e with hb e
 injection e with hr G
 exact r8 (T:=aB) A L (c:=ai fn) (args:=args) H hb rfl hr G h
attribute [go_sem] Tryz.f202
def uu (c1:UInt8)(w:World)(R:Bool->Sb)(h:vc aB (a6 [] [] []) (ai Tryz.f202) (aj 0 [.c c1]) w (fin aB [.tmp 2 .b] R)):
  Sc 202 #[(.int .u8 c1.toNat)] w (aw [.b] R):=
 bn Tryz.func202 (by kernel_rfl) h
attribute [go_sem] Tryz.f159
def nP (G:aD)(a2:Int)(w:World)(R:Int->Sb)(h:vc aB (a6 [] [] []) (ai Tryz.f159) (aj 0 [.s G,.i a2]) w (fin aB [.tmp 4 .i] R)):
  Sc 159 #[(.string (ak G)),(.int .i64 a2)] w (aw [.i] R):=
 bn Tryz.func159 (by kernel_rfl) h
attribute [go_sem] Tryz.f144
def uL (G:aD)(w:World)(R:UInt8->Sb)(h:vc aB (a6 [] [] []) (ai Tryz.f144) (aj 0 [.s G]) w (fin aB [.tmp 2 .c] R)):
  Sc 144 #[(.string (ak G))] w (aw [.c] R):=
 bn Tryz.func144 (by kernel_rfl) h
attribute [go_sem] Tryz.f180
def vH (G:aD)(w:World)(R:Int->Sb)(h:vc aB (a6 [] [] []) (ai Tryz.f180) (aj 0 [.s G]) w (fin aB [.tmp 2 .i] R)):
  Sc 180 #[(.string (ak G))] w (aw [.i] R):=
 bn Tryz.func180 (by kernel_rfl) h
attribute [go_sem] Tryz.f141
def tn (G:aD)(w:World)(R:Value->Sb)(h:vc aB (a6 [] [] [(7,false,.lt 0 (.lt 1 (.lt 2 (.lt 3 (.lt 4 (.lt 5 (.lt 6 (.lt 7 (.lt 8 (.lt 9 (.one .h 10 (.lt 11 .done))))))))))))]) (ai Tryz.f141) (aj 0 [.s G]) w (fin aB [.tmp 2 .v] R)):
  Sc 141 #[(.string (ak G))] w (aw [.v] R):=
 bn Tryz.func141 (by kernel_rfl) h
attribute [go_sem] Tryz.f131
def vz (G:aD)(w:World)(R:Int->Sb)(h:vc aB (a6 [(3,[(3,.i),(9,.i)])] [] []) (ai Tryz.f131) (aj 0 [.s G]) w (fin aB [.tmp 2 .i] R)):
  Sc 131 #[(.string (ak G))] w (aw [.i] R):=
 bn Tryz.func131 (by kernel_rfl) h
attribute [go_sem] Tryz.f158
def sG (G:aD)(w:World)(R:Bool->Sb)(h:vc aB (a6 [(2,[(3,.i)])] [] []) (ai Tryz.f158) (aj 0 [.s G]) w (fin aB [.tmp 2 .b] R)):
  Sc 158 #[(.string (ak G))] w (aw [.b] R):=
 bn Tryz.func158 (by kernel_rfl) h
attribute [go_sem] Tryz.f88
def ui (G:aD)(w:World)(R:Bool->Sb)(h:vc aB (a6 [] [] []) (ai Tryz.f88) (aj 0 [.s G]) w (fin aB [.tmp 2 .b] R)):
  Sc 88 #[(.string (ak G))] w (aw [.b] R):=
 bn Tryz.func88 (by kernel_rfl) h
attribute [go_sem] Tryz.f92
def yB (s1:aD)(c2:UInt8)(w:World)(R:Bool->Sb)(h:vc aB (a6 [(2,[(5,.i)])] [] []) (ai Tryz.f92) (aj 0 [.s s1,.c c2]) w (fin aB [.tmp 4 .b] R)):
  Sc 92 #[(.string (ak s1)),(.int .u8 c2.toNat)] w (aw [.b] R):=
 bn Tryz.func92 (by kernel_rfl) h
attribute [go_sem] Tryz.f145
def xh (s1:aD)(c2:UInt8)(w:World)(R:aD->Sb)(h:vc aB (a6 [(2,[(5,.i)])] [] [(6,false,.lt 0 (.lt 1 (.lt 2 (.lt 3 (.lt 7 (.lt 8 (.lt 9 (.one .h 4 (.one .h 5 (.lt 6 (.lt 10 (.lt 11 .done))))))))))))]) (ai Tryz.f145) (aj 0 [.s s1,.c c2]) w (fin aB [.tmp 4 .s] R)):
  Sc 145 #[(.string (ak s1)),(.int .u8 c2.toNat)] w (aw [.s] R):=
 bn Tryz.func145 (by kernel_rfl) h
attribute [go_sem] Tryz.f140
def uh (s1:aD)(c2:UInt8)(w:World)(R:aD->Sb)(h:vc aB (a6 [(3,[(5,.s),(6,.i)])] [] []) (ai Tryz.f140) (aj 0 [.s s1,.c c2]) w (fin aB [.tmp 4 .s] R)):
  Sc 140 #[(.string (ak s1)),(.int .u8 c2.toNat)] w (aw [.s] R):=
 bn Tryz.func140 (by kernel_rfl) h
attribute [go_sem] Tryz.f142
def vF (s1:aD)(t2:aD)(w:World)(R:aD->Sb)(h:vc aB (a6 [(2,[(0,.s),(5,.i)])] [] []) (ai Tryz.f142) (aj 0 [.s s1,.s t2]) w (fin aB [.tmp 4 .s] R)):
  Sc 142 #[(.string (ak s1)),(.string (ak t2))] w (aw [.s] R):=
 bn Tryz.func142 (by kernel_rfl) h
attribute [go_sem] Tryz.f143
def sJ (G:aD)(w:World)(R:UInt8->Bool->Sb)(h:vc aB (a6 [] [] []) (ai Tryz.f143) (aj 0 [.s G]) w (fin aB [.tmp 2 .c,.tmp 3 .b] R)):
  Sc 143 #[(.string (ak G))] w (aw [.c,.b] R):=
 bn Tryz.func143 (by kernel_rfl) h
attribute [go_sem] Tryz.f79
def uA (G:aD)(w:World)(R:aD->Sb)(h:vc aB (a6 [(3,[(3,.s),(11,.i)])] [(10,[(3,.s)])] [(12,false,.lt 0 (.lt 1 (.lt 2 (.lt 4 (.lt 5 (.one .h 3 (.one .h 6 (.lt 7 .done)))))))),(16,false,.lt 0 (.lt 1 (.lt 2 (.lt 4 (.lt 5 (.one .h 3 (.one .h 6 (.lt 7 .done))))))))]) (ai Tryz.f79) (aj 0 [.s G]) w (fin aB [.tmp 2 .s] R)):
  Sc 79 #[(.string (ak G))] w (aw [.s] R):=
 bn Tryz.func79 (by kernel_rfl) h
attribute [go_sem] Tryz.f78
def tj (t1:aD)(w:World)(R:UInt8->Sb)(h:vc aB (a6 [(2,[(3,.c)]),(7,[(4,.c)])] [] []) (ai Tryz.f78) (aj 0 [.s t1]) w (fin aB [.tmp 2 .c] R)):
  Sc 78 #[(.string (ak t1))] w (aw [.c] R):=
 bn Tryz.func78 (by kernel_rfl) h
attribute [go_sem] Tryz.f181
def uo (c1:UInt8)(G:UInt8)(H:UInt8)(w:World)(R:UInt8->Sb)(h:vc aB (a6 [] [] []) (ai Tryz.f181) (aj 0 [.c c1,.c G,.c H]) w (fin aB [.tmp 6 .c] R)):
  Sc 181 #[(.int .u8 c1.toNat),(.int .u8 G.toNat),(.int .u8 H.toNat)] w (aw [.c] R):=
 bn Tryz.func181 (by kernel_rfl) h
attribute [go_sem] Tryz.f112
def qY (G:aD)(H:UInt8)(J:UInt8)(w:World)(R:aD->Sb)(h:vc aB (a6 [] [(10,[(11,.c)]),(12,[(8,.s),(9,.c)]),(14,[(8,.s)]),(18,[]),(30,[])] [(9,false,.lt 0 (.lt 2 (.lt 3 (.br .h 1 (.one .h 4 (.one .h 5 (.one .h 6 (.one .h 7 (.lt 8 .done))))) (.one .h 4 (.br .h 1 (.one .h 5 (.one .h 6 (.one .h 7 (.lt 8 .done)))) (.one .h 5 (.one .h 1 (.one .h 6 (.one .h 7 (.lt 8 .done))))))))))),(29,false,.lt 0 (.lt 1 (.lt 2 (.lt 3 (.lt 4 (.lt 5 (.lt 7 (.lt 8 (.lt 9 (.lt 10 (.lt 11 (.one .h 6 (.one .h 12 (.one .h 13 (.one .h 14 (.lt 15 .done)))))))))))))))),(30,false,.lt 0 (.lt 2 (.lt 3 (.lt 4 (.lt 5 (.lt 6 (.lt 7 (.br .h 1 (.one .h 8 (.lt 9 (.lt 10 .done))) (.one .h 8 (.one .h 1 (.lt 9 (.lt 10 .done))))))))))))]) (ai Tryz.f112) (aj 0 [.s G,.c H,.c J]) w (fin aB [.tmp 6 .s] R)):
  Sc 112 #[(.string (ak G)),(.int .u8 H.toNat),(.int .u8 J.toNat)] w (aw [.s] R):=
 bn Tryz.func112 (by kernel_rfl) h
attribute [go_sem] Tryz.f246
def sQ (G:aD)(w:World)(R:aD->Sb)(h:vc aB (a6 [] [] [(3,false,.lt 0 (.lt 1 (.lt 2 (.lt 3 (.lt 4 (.lt 5 .done)))))),(7,false,.lt 0 (.lt 1 (.lt 2 (.lt 3 (.lt 4 (.lt 5 .done))))))]) (ai Tryz.f246) (aj 0 [.s G]) w (fin aB [.tmp 2 .s] R)):
  Sc 246 #[(.string (ak G))] w (aw [.s] R):=
 bn Tryz.func246 (by kernel_rfl) h
attribute [go_sem] Tryz.f182
def vD (G:aD)(H:Value)(w:World)(R:aD->Sb)(h:vc aB (a6 [] [] [(5,false,.lt 0 (.lt 1 (.lt 2 (.lt 3 (.lt 4 (.lt 5 (.lt 6 (.lt 7 (.lt 8 (.lt 9 (.lt 10 .done))))))))))),(7,false,.lt 0 (.lt 1 (.lt 2 (.lt 3 (.lt 4 (.lt 5 (.lt 6 (.lt 7 (.lt 8 (.lt 9 (.lt 10 .done))))))))))),(8,false,.lt 0 (.lt 1 (.lt 4 (.lt 5 (.lt 6 (.one .h 2 (.lt 3 (.lt 7 (.lt 8 .done)))))))))]) (ai Tryz.f182) (aj 0 [.s G,.v H]) w (fin aB [.tmp 4 .s] R)):
  Sc 182 #[(.string (ak G)),H] w (aw [.s] R):=
 bn Tryz.func182 (by kernel_rfl) h
attribute [go_sem] Tryz.f160
def pg (G:aD)(w:World)(R:Bool->Sb)(h:vc aB (a6 [(2,[(8,.i)])] [] []) (ai Tryz.f160) (aj 0 [.s G]) w (fin aB [.tmp 2 .b] R)):
  Sc 160 #[(.string (ak G))] w (aw [.b] R):=
 bn Tryz.func160 (by kernel_rfl) h
attribute [go_sem] Tryz.f161
def qS (G:aD)(w:World)(R:Bool->Sb)(h:vc aB (a6 [(2,[(8,.i)])] [] []) (ai Tryz.f161) (aj 0 [.s G]) w (fin aB [.tmp 2 .b] R)):
  Sc 161 #[(.string (ak G))] w (aw [.b] R):=
 bn Tryz.func161 (by kernel_rfl) h
attribute [go_sem] Tryz.f89
def qH (G:aD)(w:World)(R:Bool->Sb)(h:vc aB (a6 [] [] []) (ai Tryz.f89) (aj 0 [.s G]) w (fin aB [.tmp 2 .b] R)):
  Sc 89 #[(.string (ak G))] w (aw [.b] R):=
 bn Tryz.func89 (by kernel_rfl) h
attribute [go_sem] Tryz.f163
def yp (G:aD)(w:World)(R:aD->Bool->Sb)(h:vc aB (a6 [] [] []) (ai Tryz.f163) (aj 0 [.s G]) w (fin aB [.tmp 2 .s,.tmp 3 .b] R)):
  Sc 163 #[(.string (ak G))] w (aw [.s,.b] R):=
 bn Tryz.func163 (by kernel_rfl) h
inductive T (N:Type) where
 | nil
 | snd (a b:N) (p:T N)
 | rcv (a x:N) (p:T N)
 | tau (p:T N)
 | sum (p q:T N)
 | par (p q:T N)
 | res (x:N) (p:T N)
 | mat (a b:N) (p:T N)
 | rep (p:T N)
def aI {A V:Type}[DecidableEq A](ρ:A->V)(x:A)(v:V):A->V:=λy=>if y=x then v else ρ y
section
variable {A B C:Type} [DecidableEq A] [DecidableEq B] [DecidableEq C]
def cE (ρ:A->Nat)(x:A)(v:Nat):aI ρ x v x=v:=by simp [aI]
def bE (ρ:A->Nat){x y:A}(v:Nat)(h:y≠x):aI ρ x v y=ρ y:=by simp [aI,h]
namespace T
def Fr (x:A):T A->Prop
 | nil=>False
 | snd a b p=>x=a\/x=b\/p.Fr x
 | rcv a y p=>x=a\/(x≠y/\p.Fr x)
 | tau p=>p.Fr x
 | sum p q=>p.Fr x\/q.Fr x
 | par p q=>p.Fr x\/q.Fr x
 | res y p=>x≠y/\p.Fr x
 | mat a b p=>x=a\/x=b\/p.Fr x
 | rep p=>p.Fr x
def dead:T A->Bool
 | nil=>true | snd .. =>false | rcv .. =>false | tau _=>false
 | sum p q=>p.dead&&q.dead
 | par p q=>p.dead&&q.dead
 | res _ p=>p.dead | mat _ _ p=>p.dead | rep p=>p.dead
def Us (x:A):T A->Prop
 | nil=>False
 | snd a b p=>x=a\/x=b\/p.Us x
 | rcv a y p=>x=a\/(x≠y/\p.Us x)
 | tau p=>p.Us x
 | sum p q=>p.Us x\/q.Us x
 | par p q=>p.Us x\/q.Us x
 | res y p=>x≠y/\p.Us x
 | mat a b p=>(a=b/\p.Us x)\/(a≠b/\p.dead=false/\(x=a\/x=b\/p.Us x))
 | rep p=>p.Us x
def size:T A->Nat
 | nil=>1 | snd _ _ p=>p.size+1 | rcv _ _ p=>p.size+1 | tau p=>p.size+1 | sum p q=>p.size+q.size+1
 | par p q=>p.size+q.size+1 | res _ p=>p.size+1 | mat _ _ p=>p.size+1 | rep p=>p.size+1
def bj {A:Type}{x:A}:∀{p:T A},p.Us x->p.Fr x
 | snd a b p,h=>by simp only [Us,Fr]at*;exact h.imp id λh=>h.imp id bj
 | rcv a y p,h=>by simp only [Us,Fr]at*;exact h.imp id λh=>h.imp id bj
 | tau p,h=>bj (p:=p) h
 | sum p q,h=>Or.imp bj bj h
 | par p q,h=>Or.imp bj bj h
 | res y p,h=>And.imp id bj h
 | mat a b p,h=>by
  simp only [Us,Fr]at*;rcases h with⟨_,h⟩ | ⟨_,_,h⟩
  ·exact .inr (.inr (bj h))
  ·exact h.imp id λh=>h.imp id bj
 | rep p,h=>bj (p:=p) h
def bF {A:Type}{x:A}:∀{p:T A},p.dead=true->¬p.Us x
 | nil,_,h=>h
 | snd ..,hd,_=>by cases hd
 | rcv ..,hd,_=>by cases hd
 | tau ..,hd,_=>by cases hd
 | sum p q,hd,h=>by
  simp only [dead,OA]at hd;exact h.elim (bF hd.1) (bF hd.2)
 | par p q,hd,h=>by
  simp only [dead,OA]at hd;exact h.elim (bF hd.1) (bF hd.2)
 | res y p,hd,h=>bF (p:=p) hd h.2
 | mat a b p,hd,h=>by
  simp only [dead]at hd;rcases h with⟨_,h⟩ | ⟨_,h,_⟩
  ·exact bF hd h
  ·rw [hd]at h;cases h
 | rep p,hd,h=>bF (p:=p) hd h
end T
def AE:(A->Nat)->T A->(B->Nat)->T B->Prop
 | _,.nil,_,.nil=>True
 | ρ,.snd a b p,σ,.snd c d q=>ρ a=σ c/\ρ b=σ d/\AE ρ p σ q
 | ρ,.rcv a x p,σ,.rcv c y q=>ρ a=σ c/\∀v,AE (aI ρ x v) p (aI σ y v) q
 | ρ,.tau p,σ,.tau q=>AE ρ p σ q
 | ρ,.sum p G,σ,.sum q H=>AE ρ p σ q/\AE ρ G σ H
 | ρ,.par p G,σ,.par q H=>AE ρ p σ q/\AE ρ G σ H
 | ρ,.res x p,σ,.res y q=>∀v,AE (aI ρ x v) p (aI σ y v) q
 | ρ,.mat a b p,σ,.mat c d q=>ρ a=σ c/\ρ b=σ d/\AE ρ p σ q
 | ρ,.rep p,σ,.rep q=>AE ρ p σ q
 | _,_,_,_=>False
def mw {p:T A}{ρ ρ':A->Nat}{x:A}(v:Nat)(h:∀z,z≠x->p.Fr z->ρ z=ρ' z)(z:A)(H:p.Fr z):aI ρ x v z=aI ρ' x v z:=by
 unfold aI;split
 ·rfl
 ·rename_i G;exact h z G H
def AE.congr:∀{p:T A} {q:T B} {ρ ρ':A->Nat} {σ α:B->Nat},AE ρ p σ q->(∀x,p.Fr x->ρ x=ρ' x)->(∀y,q.Fr y->σ y=α y)->AE ρ' p α q:=by
 intro p
 induction p<;>intro q ρ ρ' σ α h H J<;>cases q<;>simp only [AE]at h|-
 case snd.snd Z _ _ _=>
  exact⟨by rw [<-H _ (.inl rfl),<-J _ (.inl rfl)];exact h.1,by rw [<-H _ (.inr (.inl rfl)),<-J _ (.inr (.inl rfl))];exact h.2.1,
   Z h.2.2 (λx G=>H x (.inr (.inr G))) (λx G=>J x (.inr (.inr G)))⟩
 case mat.mat Z _ _ _=>
  exact⟨by rw [<-H _ (.inl rfl),<-J _ (.inl rfl)];exact h.1,by rw [<-H _ (.inr (.inl rfl)),<-J _ (.inr (.inl rfl))];exact h.2.1,
   Z h.2.2 (λx G=>H x (.inr (.inr G))) (λx G=>J x (.inr (.inr G)))⟩
 case rcv.rcv Z _ _ _=>
  exact⟨by rw [<-H _ (.inl rfl),<-J _ (.inl rfl)];exact h.1,
   λv=>Z (h.2 v) (mw v λz hz hf=>H z (.inr ⟨hz,hf⟩)) (mw v λz hz hf=>J z (.inr ⟨hz,hf⟩))⟩
 case res.res Z _ _=>
  exact λv=>Z (h v) (mw v λz hz hf=>H z ⟨hz,hf⟩) (mw v λz hz hf=>J z ⟨hz,hf⟩)
 case tau.tau Z _=>exact Z h H J
 case rep.rep Z _=>exact Z h H J
 case sum.sum Z β _ _=>exact⟨Z h.1 (λx G=>H x (.inl G)) (λx G=>J x (.inl G)),β h.2 (λx G=>H x (.inr G)) (λx G=>J x (.inr G))⟩
 case par.par Z β _ _=>exact⟨Z h.1 (λx G=>H x (.inl G)) (λx G=>J x (.inl G)),β h.2 (λx G=>H x (.inr G)) (λx G=>J x (.inr G))⟩
def AE.refl:∀(p:T A) (ρ:A->Nat),AE ρ p ρ p:=by
 intro p
 induction p<;>intro ρ<;>simp_all [AE]
def AE.symm:∀{p:T A} {q:T B} {ρ:A->Nat} {σ:B->Nat},AE ρ p σ q->AE σ q ρ p:=by
 intro p
 induction p<;>intro q ρ σ h<;>cases q<;>simp only [AE]at h|-
 case snd.snd G _ _ _=>exact⟨h.1.symm,h.2.1.symm,G h.2.2⟩
 case mat.mat G _ _ _=>exact⟨h.1.symm,h.2.1.symm,G h.2.2⟩
 case rcv.rcv G _ _ _=>exact⟨h.1.symm,λv=>G (h.2 v)⟩
 case res.res G _ _=>exact λv=>G (h v)
 case tau.tau G _=>exact G h
 case rep.rep G _=>exact G h
 case sum.sum G H _ _=>exact⟨G h.1,H h.2⟩
 case par.par G H _ _=>exact⟨G h.1,H h.2⟩
def AE.trans:∀{p:T A} {q:T B} {r:T C} {ρ:A->Nat} {σ:B->Nat} {τ:C->Nat},AE ρ p σ q->AE σ q τ r->AE ρ p τ r:=by
 intro p
 induction p<;>intro q r ρ σ τ h k<;>cases q<;>simp only [AE]at h<;>cases r<;>simp only [AE]at k|-
 case snd.snd.snd G _ _ _ _ _ _=>exact⟨h.1.trans k.1,h.2.1.trans k.2.1,G h.2.2 k.2.2⟩
 case mat.mat.mat G _ _ _ _ _ _=>exact⟨h.1.trans k.1,h.2.1.trans k.2.1,G h.2.2 k.2.2⟩
 case rcv.rcv.rcv G _ _ _ _ _ _=>exact⟨h.1.trans k.1,λv=>G (h.2 v) (k.2 v)⟩
 case res.res.res G _ _ _ _=>exact λv=>G (h v) (k v)
 case tau.tau.tau G _ _=>exact G h k
 case rep.rep.rep G _ _=>exact G h k
 case sum.sum.sum G H _ _ _ _=>exact⟨G h.1 k.1,H h.2 k.2⟩
 case par.par.par G H _ _ _ _=>exact⟨G h.1 k.1,H h.2 k.2⟩
def Bx {A:Type}(p:T A):∀ρ:A->Nat,∃B,∀x,p.Fr x->ρ x< B:=by
 induction p<;>intro ρ
 case nil=>exact⟨0,λx h=>h.elim⟩
 case snd a b p H=>
  obtain⟨n,h⟩:=H ρ;refine⟨n+ρ a+ρ b+1,λx G=>?_⟩;rcases G with rfl | rfl | G
  ·omega
  ·omega
  ·have :=h x G;omega
 case mat a b p H=>
  obtain⟨n,h⟩:=H ρ;refine⟨n+ρ a+ρ b+1,λx G=>?_⟩;rcases G with rfl | rfl | G
  ·omega
  ·omega
  ·have :=h x G;omega
 case rcv a y p H=>
  obtain⟨n,h⟩:=H ρ;refine⟨n+ρ a+1,λx G=>?_⟩;rcases G with rfl | G
  ·omega
  ·have :=h x G.2;omega
 case res y p H=>
  obtain⟨n,h⟩:=H ρ;exact⟨n,λx G=>h x G.2⟩
 case tau p H=>exact H ρ
 case rep p H=>exact H ρ
 case sum p q H J=>
  obtain⟨n,h⟩:=H ρ;obtain⟨m,Z⟩:=J ρ;refine⟨n+m,λx G=>?_⟩;rcases G with G | G
  ·have :=h x G;omega
  ·have :=Z x G;omega
 case par p q H J=>
  obtain⟨n,h⟩:=H ρ;obtain⟨m,Z⟩:=J ρ;refine⟨n+m,λx G=>?_⟩;rcases G with G | G
  ·have :=h x G;omega
  ·have :=Z x G;omega
def cc {A B:Type}(p:T A)(q:T B)(ρ:A->Nat)(σ:B->Nat):∃v,(∀x,p.Fr x->ρ x≠v)/\∀y,q.Fr y->σ y≠v:=by
 obtain⟨n,h⟩:=Bx p ρ;obtain⟨m,H⟩:=Bx q σ;exact⟨n+m,λx G=>by have :=h x G;omega,λx G=>by have :=H x G;omega⟩
def AE.map:∀{p:T A} {q:T B} {ρ:A->Nat} {σ:B->Nat} (f:Nat->Nat),AE ρ p σ q->AE (λx=>f (ρ x)) p (λx=>f (σ x)) q:=by
 intro p
 induction p<;>intro q ρ σ f h<;>cases q<;>simp only [AE]at h|-
 case snd.snd G _ _ _=>exact⟨PA f h.1,PA f h.2.1,G f h.2.2⟩
 case mat.mat G _ _ _=>exact⟨PA f h.1,PA f h.2.1,G f h.2.2⟩
 case rcv.rcv p G _ _ q=>
  refine⟨PA f h.1,λv=>?_⟩;obtain⟨u,Z,h2⟩:=cc p q ρ σ;refine(G (aI f u v) (h.2 u)).congr (λx H=>?_) λx H=>?_<;>unfold aI<;>split
  ·simp
  ·rw [OP (Z _ H)]
  ·simp
  ·rw [OP (h2 _ H)]
 case res.res p G _ q=>
  intro v;obtain⟨u,Z,h2⟩:=cc p q ρ σ;refine(G (aI f u v) (h u)).congr (λx H=>?_) λx H=>?_<;>unfold aI<;>split
  ·simp
  ·rw [OP (Z _ H)]
  ·simp
  ·rw [OP (h2 _ H)]
 case tau.tau G _=>exact G f h
 case rep.rep G _=>exact G f h
 case sum.sum G J _ _=>exact⟨G f h.1,J f h.2⟩
 case par.par G J _ _=>exact⟨G f h.1,J f h.2⟩
def AE.dead:∀{p:T A} {q:T B} {ρ:A->Nat} {σ:B->Nat},AE ρ p σ q->p.dead=q.dead:=by
 intro p
 induction p<;>intro q ρ σ h<;>cases q<;>simp only [AE]at h<;>simp only [T.dead]
 case res.res G _ _=>exact G (h 0)
 case mat.mat G _ _ _=>exact G h.2.2
 case rep.rep G _=>exact G h
 case sum.sum G H _ _=>rw [G h.1,H h.2]
 case par.par G H _ _=>rw [G h.1,H h.2]
def AE.free:∀{p:T A} {q:T B} {ρ:A->Nat} {σ:B->Nat},AE ρ p σ q->∀x,p.Fr x->∃y,q.Fr y/\σ y=ρ x:=by
 intro p
 induction p<;>intro q ρ σ h x G<;>cases q<;>simp only [AE]at h
 case nil.nil=>exact G.elim
 case snd.snd H _ _ _=>
  rcases G with rfl | rfl | G
  ·exact⟨_,.inl rfl,h.1.symm⟩
  ·exact⟨_,.inr (.inl rfl),h.2.1.symm⟩
  ·obtain⟨y,J,Z⟩:=H h.2.2 x G;exact⟨y,.inr (.inr J),Z⟩
 case mat.mat H _ _ _=>
  rcases G with rfl | rfl | G
  ·exact⟨_,.inl rfl,h.1.symm⟩
  ·exact⟨_,.inr (.inl rfl),h.2.1.symm⟩
  ·obtain⟨y,J,Z⟩:=H h.2.2 x G;exact⟨y,.inr (.inr J),Z⟩
 case rcv.rcv p H _ _ q=>
  rcases G with rfl | ⟨α,G⟩
  ·exact⟨_,.inl rfl,h.1.symm⟩
  ·obtain⟨u,J,Z⟩:=cc p q ρ σ;obtain⟨y,h3,h4⟩:=H (h.2 u) x G;rw [bE _ _ α]at h4;unfold aI at h4;split at h4
   ·exact absurd h4.symm (J x G)
   ·rename_i hy;exact⟨y,.inr ⟨hy,h3⟩,h4⟩
 case res.res p H _ q=>
  obtain⟨α,G⟩:=G;obtain⟨u,J,Z⟩:=cc p q ρ σ;obtain⟨y,h3,h4⟩:=H (h u) x G;rw [bE _ _ α]at h4;unfold aI at h4;split at h4
  ·exact absurd h4.symm (J x G)
  ·rename_i hy;exact⟨y,⟨hy,h3⟩,h4⟩
 case tau.tau H _=>exact H h x G
 case rep.rep H _=>exact H h x G
 case sum.sum H β _ _=>
  rcases G with G | G
  ·obtain⟨y,J,Z⟩:=H h.1 x G;exact⟨y,.inl J,Z⟩
  ·obtain⟨y,J,Z⟩:=β h.2 x G;exact⟨y,.inr J,Z⟩
 case par.par H β _ _=>
  rcases G with G | G
  ·obtain⟨y,J,Z⟩:=H h.1 x G;exact⟨y,.inl J,Z⟩
  ·obtain⟨y,J,Z⟩:=β h.2 x G;exact⟨y,.inr J,Z⟩
def fF (ρ:A->Nat)(p:T A):Prop:=∀x y,p.Us x->p.Us y->ρ x=ρ y->x=y
def fF.aI {ρ:A->Nat}{p:T A}{x:A}{v:Nat}(h:∀y z,y≠x->z≠x->p.Us y->p.Us z->ρ y=ρ z->y=z)(J:∀y,y≠x->p.Us y->ρ y≠v):fF (aI ρ x v) p:=by
 intro y z Z hz e;unfold Proofs.YthekamjhgabkjaaGreat.aI at e;split at e<;>split at e
 ·rename_i G H;rw [G,H]
 ·rename_i G H;exact absurd e.symm (J z H hz)
 ·rename_i G H;exact absurd e (J y G Z)
 ·rename_i G H;exact h y z G H Z hz e
def AE.used:∀{p:T A} {q:T B} {ρ:A->Nat} {σ:B->Nat},AE ρ p σ q->fF ρ p->fF σ q->∀x,p.Us x->∃y,q.Us y/\σ y=ρ x:=by
 intro p
 induction p<;>intro q ρ σ h i j x G<;>cases q<;>simp only [AE]at h
 case nil.nil=>exact G.elim
 case snd.snd ih _ _ _=>
  rcases G with rfl | rfl | G
  ·exact⟨_,.inl rfl,h.1.symm⟩
  ·exact⟨_,.inr (.inl rfl),h.2.1.symm⟩
  ·obtain⟨y,J,h2⟩:=ih h.2.2 (λx y G H=>i x y (.inr (.inr G)) (.inr (.inr H))) (λx y G H=>j x y (.inr (.inr G)) (.inr (.inr H))) x G;exact⟨y,.inr (.inr J),h2⟩
 case mat.mat p ih c d q=>
  have hd:p.dead=q.dead:=h.2.2.dead;rcases G with⟨e,G⟩ | ⟨e,β,G⟩
  ·subst e;have e2:σ c=σ d:=h.1.symm.trans h.2.1;have hl:p.dead=false:=by
    cases hq:p.dead with
    | false=>rfl
    | true=>exact absurd G (T.bF hq)
   have Z:c=d:=by
    refine P1 λα=>α (j c d ?_ ?_ e2)
    ·exact .inr ⟨α,hd▸hl,.inl rfl⟩
    ·exact .inr ⟨α,hd▸hl,.inr (.inl rfl)⟩
   obtain⟨y,J,h2⟩:=ih h.2.2 (λx y G H=>i x y (.inl ⟨rfl,G⟩) (.inl ⟨rfl,H⟩)) (λx y G H=>j x y (.inl ⟨Z,G⟩) (.inl ⟨Z,H⟩)) x G;exact⟨y,.inl ⟨Z,J⟩,h2⟩
  ·rename_i a b;have Z:c≠d:=by
    rintro rfl
    exact e (i a b (.inr ⟨e,β,.inl rfl⟩) (.inr ⟨e,β,.inr (.inl rfl)⟩) (h.1.trans h.2.1.symm))
   have γ:q.dead=false:=hd▸β;rcases G with rfl | rfl | G
   ·exact⟨c,.inr ⟨Z,γ,.inl rfl⟩,h.1.symm⟩
   ·exact⟨d,.inr ⟨Z,γ,.inr (.inl rfl)⟩,h.2.1.symm⟩
   ·obtain⟨y,J,h2⟩:=ih h.2.2 (λx y G H=>i x y (.inr ⟨e,β,.inr (.inr G)⟩) (.inr ⟨e,β,.inr (.inr H)⟩))
     (λx y G H=>j x y (.inr ⟨Z,γ,.inr (.inr G)⟩) (.inr ⟨Z,γ,.inr (.inr H)⟩)) x G
    exact⟨y,.inr ⟨Z,γ,.inr (.inr J)⟩,h2⟩
 case rcv.rcv p ih _ _ q=>
  rcases G with rfl | ⟨α,G⟩
  ·exact⟨_,.inl rfl,h.1.symm⟩
  ·obtain⟨u,J,h2⟩:=cc p q ρ σ;obtain⟨y,h3,h4⟩:=ih (h.2 u) (.aI (λy z H hz h5 h6=>i y z (.inr ⟨H,h5⟩) (.inr ⟨hz,h6⟩)) λy _ H=>J y (T.bj H))
    (.aI (λy z H hz h5 h6=>j y z (.inr ⟨H,h5⟩) (.inr ⟨hz,h6⟩)) λy _ H=>h2 y (T.bj H)) x G
   rw [bE _ _ α]at h4;unfold aI at h4;split at h4
   ·exact absurd h4.symm (J x (T.bj G))
   ·rename_i H;exact⟨y,.inr ⟨H,h3⟩,h4⟩
 case res.res p ih _ q=>
  obtain⟨α,G⟩:=G;obtain⟨u,J,h2⟩:=cc p q ρ σ;obtain⟨y,h3,h4⟩:=ih (h u) (.aI (λy z H hz h5 h6=>i y z ⟨H,h5⟩ ⟨hz,h6⟩) λy _ H=>J y (T.bj H))
    (.aI (λy z H hz h5 h6=>j y z ⟨H,h5⟩ ⟨hz,h6⟩) λy _ H=>h2 y (T.bj H)) x G
  rw [bE _ _ α]at h4;unfold aI at h4;split at h4
  ·exact absurd h4.symm (J x (T.bj G))
  ·rename_i H;exact⟨y,⟨H,h3⟩,h4⟩
 case tau.tau ih _=>exact ih h i j x G
 case rep.rep ih _=>exact ih h i j x G
 case sum.sum ih δ _ _=>
  rcases G with G | G
  ·obtain⟨y,J,h2⟩:=ih h.1 (λx y G H=>i x y (.inl G) (.inl H)) (λx y G H=>j x y (.inl G) (.inl H)) x G;exact⟨y,.inl J,h2⟩
  ·obtain⟨y,J,h2⟩:=δ h.2 (λx y G H=>i x y (.inr G) (.inr H)) (λx y G H=>j x y (.inr G) (.inr H)) x G;exact⟨y,.inr J,h2⟩
 case par.par ih δ _ _=>
  rcases G with G | G
  ·obtain⟨y,J,h2⟩:=ih h.1 (λx y G H=>i x y (.inl G) (.inl H)) (λx y G H=>j x y (.inl G) (.inl H)) x G;exact⟨y,.inl J,h2⟩
  ·obtain⟨y,J,h2⟩:=δ h.2 (λx y G H=>i x y (.inr G) (.inr H)) (λx y G H=>j x y (.inr G) (.inr H)) x G;exact⟨y,.inr J,h2⟩
def aE (p:T A)(old nm:A)(q:T A):Prop:=∀ρ:A->Nat,AE (aI ρ old (ρ nm)) p ρ q
def sw (c old nm:A):A:=if c=old then nm else c
def oA (ρ:A->Nat)(c old nm:A):aI ρ old (ρ nm) c=ρ (sw c old nm):=by
 unfold aI sw;split<;>rfl
def aE.skip {p:T A}{old nm:A}(h:¬p.Fr old):aE p old nm p:=λρ=>
 (AE.refl p ρ).congr (λx G=>by
  unfold aI;split
  ·rename_i e;subst e;exact absurd G h
  ·rfl) λ _ _=>rfl
def aE.same {p:T A}(old:A):aE p old old p:=λρ=>
 (AE.refl p ρ).congr (λx G=>by
  unfold aI;split
  ·rename_i e;subst e;rfl
  ·rfl) λ _ _=>rfl
def aE.snd {p q:T A}{old nm:A}(a b:A)(h:aE p old nm q):aE (.snd a b p) old nm (.snd (sw a old nm) (sw b old nm) q):=λρ=>
 ⟨oA ..,oA ..,h ρ⟩
def aE.mat {p q:T A}{old nm:A}(a b:A)(h:aE p old nm q):aE (.mat a b p) old nm (.mat (sw a old nm) (sw b old nm) q):=λρ=>
 ⟨oA ..,oA ..,h ρ⟩
def aE.tau {p q:T A}{old nm:A}(h:aE p old nm q):aE (.tau p) old nm (.tau q):=λρ=>h ρ
def aE.rep {p q:T A}{old nm:A}(h:aE p old nm q):aE (.rep p) old nm (.rep q):=λρ=>h ρ
def aE.sum {p q G H:T A}{old nm:A}(h:aE p old nm q)(J:aE G old nm H):aE (.sum p G) old nm (.sum q H):=λρ=>⟨h ρ,J ρ⟩
def aE.par {p q G H:T A}{old nm:A}(h:aE p old nm q)(J:aE G old nm H):aE (.par p G) old nm (.par q H):=λρ=>⟨h ρ,J ρ⟩
def aE.under {p q:T A}{old nm x:A}(H:x≠old)(G:x≠nm\/¬p.Fr old)(h:aE p old nm q)(ρ:A->Nat)(v:Nat):
  AE (aI (aI ρ old (ρ nm)) x v) p (aI ρ x v) q:=by
 refine(h (aI ρ x v)).congr (λz Z=>?_) λ _ _=>rfl
 by_cases J:z=old
 ·subst J;rcases G with G | G
  ·simp [aI,Ry G,Ry H]
  ·exact absurd Z G
 ·by_cases h2:z=x<;>simp [aI,J,h2,H]
def aE.over {p:T A}{old nm:A}(ρ:A->Nat)(v:Nat):AE (aI (aI ρ old (ρ nm)) old v) p (aI ρ old v) p:=by
 refine(AE.refl p (aI ρ old v)).congr (λz G=>?_) λ _ _=>rfl
 unfold aI;split<;>rfl
def aE.cap {p p1 p2:T A}{old nm y:A}(ho:nm≠old)(hy:¬p.Fr y)(G:y≠old)(H:y≠nm)(h1:aE p nm y p1)(h2:aE p1 old nm p2)(ρ:A->Nat)(v:Nat):
  AE (aI (aI ρ old (ρ nm)) nm v) p (aI ρ y v) p2:=by
 have k2:=h2 (aI ρ y v);have k1:=h1 (aI (aI ρ y v) old (aI ρ y v nm));refine(AE.trans k1 k2).congr (λz hz=>?_) λ _ _=>rfl
 have J:z≠y:=by rintro rfl;exact hy hz
 by_cases Z:z=nm
 ·subst Z;simp [aI,G]
 ·by_cases e2:z=old
  ·subst e2;simp [aI,Z,Ry H]
  ·simp [aI,Z,e2,J]
def aE.FW {p q:T A}{old nm x:A}(G:x≠old)(H:x≠nm\/¬p.Fr old)(h:aE p old nm q):aE (.res x p) old nm (.res x q):=λρ v=>h.under G H ρ v
def aE.Fp {p q:T A}{old nm x:A}(a:A)(G:x≠old)(H:x≠nm\/¬p.Fr old)(h:aE p old nm q):aE (.rcv a x p) old nm (.rcv (sw a old nm) x q):=λρ=>
 ⟨oA ..,λv=>h.under G H ρ v⟩
def aE.H7 {p:T A}{old nm:A}(a:A):aE (.rcv a old p) old nm (.rcv (sw a old nm) old p):=λρ=>⟨oA ..,λv=>aE.over ρ v⟩
def aE.JE {p J Z:T A}{old nm y:A}(ho:nm≠old)(hy:¬p.Fr y)(G:y≠old)(H:y≠nm)(h1:aE p nm y J)(h2:aE J old nm Z):aE (.res nm p) old nm (.res y Z):=λρ v=>
 aE.cap ho hy G H h1 h2 ρ v
def aE.Ja {p J Z:T A}{old nm y:A}(a:A)(ho:nm≠old)(hy:¬p.Fr y)(G:y≠old)(H:y≠nm)(h1:aE p nm y J)(h2:aE J old nm Z):aE (.rcv a nm p) old nm (.rcv (sw a old nm) y Z):=λρ=>
 ⟨oA ..,λv=>aE.cap ho hy G H h1 h2 ρ v⟩
def AE.renamed {p q:T A}{old nm:A}(h:aE p old nm q){u:T B}{ρ:A->Nat}{σ:B->Nat}(G:∀x,p.Fr x->ρ x=ρ old->x=old)(k:AE ρ p σ u):AE ρ q (λx=>if σ x=ρ old then ρ nm else σ x) u:=by
 have H:=k.map (λv=>if v=ρ old then ρ nm else v);refine(h ρ).symm.trans (H.congr (λx J=>?_) λ _ _=>rfl);unfold aI;by_cases e:x=old
 ·subst e;simp
 ·rw [OP (λh=>e (G x J h)),OP e]
end
inductive K where
 | s | r | t | m | p
 deriving DecidableEq
inductive Lv where
 | nil
 | thr (k:K) (a b:Nat) (own:List Nat) (rest:Lv) (next:Lv)
 | sum (parts:Lv) (next:Lv)
 | part (own:List Nat) (q:Lv) (next:Lv)
namespace Lv
def app:Lv->Lv->Lv
 | nil,m=>m
 | thr k a b o r n,m=>thr k a b o r (n.app m)
 | sum ps n,m=>sum ps (n.app m)
 | part o q n,m=>part o q (n.app m)
def len:Lv->Nat
 | nil=>0 | thr _ _ _ _ _ n=>n.len+1 | sum _ n=>n.len+1 | part _ _ n=>n.len+1
def isNil:Lv->Bool
 | nil=>true | _=>false
def aY:∀l:Lv,l.app nil=l
 | nil=>rfl
 | thr k a b o r n=>by rw [app,aY n]
 | sum ps n=>by rw [app,aY n]
 | part o q n=>by rw [app,aY n]
def cD:∀l m n:Lv,(l.app m).app n=l.app (m.app n)
 | nil,m,n=>rfl
 | thr k a b o r x,m,n=>by simp only [app,cD x m n]
 | sum ps x,m,n=>by simp only [app,cD x m n]
 | part o q x,m,n=>by simp only [app,cD x m n]
def fe:∀l m:Lv,(l.app m).len=l.len+m.len
 | nil,m=>by simp [app,len]
 | thr k a b o r x,m=>by simp only [app,len,fe x m];omega
 | sum ps x,m=>by simp only [app,len,fe x m];omega
 | part o q x,m=>by simp only [app,len,fe x m];omega
def dH (l:Lv):l.isNil=decide (l.len=0):=by cases l<;>simp [isNil,len]
def has (x:Nat):Lv->Bool
 | nil=>false
 | thr k a b _ rest next=>((k== .s||k== .m||k== .r)&&(a==x||b==x))||rest.has x||next.has x
 | sum ps next=>ps.has x||next.has x
 | part _ q next=>q.has x||next.has x
def dj (x:Nat):∀l m:Lv,(l.app m).has x=(l.has x||m.has x)
 | nil,m=>by simp [app,has]
 | thr k a b o r n,m=>by simp only [app,has,dj x n m,Qg]
 | sum ps n,m=>by simp only [app,has,dj x n m,Qg]
 | part o q n,m=>by simp only [app,has,dj x n m,Qg]
def spl (ps:Lv)(n:List Nat×Lv):List Nat×Lv:=match ps with
 | nil=>n
 | part o q nil=>(o++n.1,q.app n.2)
 | ps=>(n.1,sum ps n.2)
def prt (o:List Nat)(q:Lv)(n:Lv):Lv:=match q with
 | nil=>n
 | sum ps nil=>if o.isEmpty then ps.app n else part o q n
 | q=>part o q n
def kept (own:List Nat)(r:List Nat×Lv):List Nat×Lv:=((own++r.1).filter λx=>r.2.has x,r.2)
def tid:Lv->List Nat×Lv
 | nil=>([],nil)
 | thr k a b own rest next=>
  let r:=kept own (tid rest)
  let n:=tid next
  if k= .m/\a=b then(r.1++n.1,r.2.app n.2)
  else if(k= .m\/k= .p)/\r.2.isNil=true then n
  else(n.1,thr k a b r.1 r.2 n.2)
 | sum ps next=>spl (tid ps).2 (tid next)
 | part own q next=>let r:=kept own (tid q);([],prt r.1 r.2 (tid next).2)
def tidy (own:List Nat)(l:Lv):List Nat×Lv:=kept own (tid l)
def gb:Lv->Bool
 | nil=>true | thr _ _ _ _ _ n=>n.gb | sum _ n=>n.gb | part .. =>false
def pQ:∀l m:Lv,(l.app m).gb=(l.gb&&m.gb)
 | nil,m=>by simp [app,gb]
 | thr k a b o r n,m=>by simp only [app,gb,pQ n m]
 | sum ps n,m=>by simp only [app,gb,pQ n m]
 | part o q n,m=>by simp [app,gb]
def JL (ps:Lv)(n m:List Nat×Lv):spl ps (n.1++m.1,n.2.app m.2)=((spl ps n).1++m.1,(spl ps n).2.app m.2):=by
 unfold spl;split<;>simp [app,cD]
def cO:∀l m:Lv,l.gb=true->tid (l.app m)=((tid l).1++(tid m).1,(tid l).2.app (tid m).2)
 | nil,m,_=>by simp [app,tid]
 | thr k a b o r n,m,h=>by
  simp only [app,tid,cO n m h];split
  ·simp [cD]
  ·split
   ·rfl
   ·simp [app]
 | sum ps n,m,h=>by
  simp only [app,tid,cO n m h];exact JL _ _ _
 | part ..,_,h=>by cases h
end Lv
abbrev U:=T Nat
def flat:U->List Nat×Lv
 | .nil=>([],.nil)
 | .snd a b p=>([],.thr .s a b (flat p).1 (flat p).2 .nil)
 | .rcv a x p=>([],.thr .r a x (flat p).1 (flat p).2 .nil)
 | .tau p=>([],.thr .t 0 0 (flat p).1 (flat p).2 .nil)
 | .sum p q=>([],.sum (.part (flat p).1 (flat p).2 (.part (flat q).1 (flat q).2 .nil)) .nil)
 | .par p q=>((flat p).1++(flat q).1,(flat p).2.app (flat q).2)
 | .res x p=>(x::(flat p).1,(flat p).2)
 | .mat a b p=>([],.thr .m a b (flat p).1 (flat p).2 .nil)
 | .rep p=>([],.thr .p 0 0 (flat p).1 (flat p).2 .nil)
def cf:∀u:U,(flat u).2.gb=true
 | .nil=>rfl | .snd .. =>rfl | .rcv .. =>rfl | .tau .. =>rfl | .sum .. =>rfl | .mat .. =>rfl | .rep .. =>rfl
 | .res x p=>cf p
 | .par p q=>by simp [flat,Lv.pQ,cf p,cf q]
def td (u:U):List Nat×Lv:=Lv.tidy (flat u).1 (flat u).2
def BV:U->List Nat
 | .nil=>[] | .snd _ _ p=>BV p | .rcv _ x p=>x::BV p | .tau p=>BV p | .sum p q=>BV p++BV q
 | .par p q=>BV p++BV q | .res x p=>x::BV p | .mat _ _ p=>BV p | .rep p=>BV p
structure Uq (u:U):Prop where
 nd:(BV u).Nodup
 nf:∀x∈BV u,¬u.Fr x
section
variable {a b x:Nat} {p q:U}
def Uq.snd (h:Uq (.snd a b p)):Uq p:=⟨h.nd,λx G H=>h.nf x G (.inr (.inr H))⟩
def Uq.mat (h:Uq (.mat a b p)):Uq p:=⟨h.nd,λx G H=>h.nf x G (.inr (.inr H))⟩
def Uq.tau (h:Uq (.tau p)):Uq p:=⟨h.nd,h.nf⟩
def Uq.rep (h:Uq (.rep p)):Uq p:=⟨h.nd,h.nf⟩
def Uq.rcv (h:Uq (.rcv a x p)):Uq p:=by
 have G:=PB.1 h.nd;exact⟨G.2,λy H J=>h.nf y (OJ _ H) (.inr ⟨λe=>G.1 (e▸H),J⟩)⟩
def Uq.res (h:Uq (.res x p)):Uq p:=by
 have G:=PB.1 h.nd;exact⟨G.2,λy H J=>h.nf y (OJ _ H) ⟨λe=>G.1 (e▸H),J⟩⟩
def Uq.gI (h:Uq (.res x p)):x∉BV p:=(PB.1 h.nd).1
def Uq.du (h:Uq (.rcv a x p)):x∉BV p:=(PB.1 h.nd).1
def Uq.gP (h:Uq (.par p q)):Uq p:=⟨(Pg.1 h.nd).1,λx G H=>h.nf x (O9 _ G) (.inl H)⟩
def Uq.ga (h:Uq (.par p q)):Uq q:=⟨(Pg.1 h.nd).2.1,λx G H=>h.nf x (O0 _ G) (.inr H)⟩
def Uq.eJ (h:Uq (.sum p q)):Uq p:=⟨(Pg.1 h.nd).1,λx G H=>h.nf x (O9 _ G) (.inl H)⟩
def Uq.dX (h:Uq (.sum p q)):Uq q:=⟨(Pg.1 h.nd).2.1,λx G H=>h.nf x (O0 _ G) (.inr H)⟩
end
def an:U->List Nat×List U
 | .nil=>([],[])
 | .snd a b p=>([],[.snd a b p])
 | .rcv a x p=>([],[.rcv a x p])
 | .tau p=>([],[.tau p])
 | .sum p q=>if p.dead then an q else if q.dead then an p else([],[.sum p q])
 | .par p q=>((an p).1++(an q).1,(an p).2++(an q).2)
 | .res x p=>(if(td p).2.has x then x::(an p).1 else(an p).1,(an p).2)
 | .mat a b p=>if a=b then an p else if p.dead then([],[])else([],[.mat a b p])
 | .rep p=>if p.dead then([],[])else([],[.rep p])
def ax:U->List U
 | .nil=>[]
 | .snd a b p=>[.snd a b p]
 | .rcv a x p=>[.rcv a x p]
 | .tau p=>[.tau p]
 | .sum p q=>ax p++ax q
 | .par p q=>if p.dead then ax q else if q.dead then ax p else [.par p q]
 | .res x p=>if(td p).2.has x then [.res x p]else ax p
 | .mat a b p=>if a=b then ax p else if p.dead then []else [.mat a b p]
 | .rep p=>if p.dead then []else [.rep p]
def tp:List U->Lv
 | []=> .nil
 | u::l=> .part (td u).1 (td u).2 (tp l)
def tl:List U->Lv
 | []=> .nil
 | .snd a b p::l=> .thr .s a b (td p).1 (td p).2 (tl l)
 | .rcv a x p::l=> .thr .r a x (td p).1 (td p).2 (tl l)
 | .tau p::l=> .thr .t 0 0 (td p).1 (td p).2 (tl l)
 | .mat a b p::l=> .thr .m a b (td p).1 (td p).2 (tl l)
 | .rep p::l=> .thr .p 0 0 (td p).1 (td p).2 (tl l)
 | .sum p q::l=> .sum (tp (ax p++ax q)) (tl l)
 | _::l=>tl l
def eU:∀l m:List U,tl (l++m)=(tl l).app (tl m)
 | [],m=>rfl
 | u::l,m=>by cases u<;>simp only [PC,tl,Lv.app,eU l m]
def uY:∀l m:List U,tp (l++m)=(tp l).app (tp m)
 | [],m=>rfl
 | u::l,m=>by simp only [PC,tp,Lv.app,uY l m]
def CW:∀l:List U,(tp l).len=l.length
 | []=>rfl
 | u::l=>by simp only [tp,Lv.len,Ov,CW l]
def cp (u:U):Lv:=Lv.prt (td u).1 (td u).2 .nil
def mI (o:List Nat)(q n:Lv):Lv.prt o q n=(Lv.prt o q .nil).app n:=by
 unfold Lv.prt;split
 ·rfl
 ·split<;>simp [Lv.app,Lv.aY]
 ·rfl
def tc (u:U):(td u).2=(Lv.tid (flat u).2).2:=rfl
def p9 (p q:U):Lv.tid (flat (.sum p q)).2=Lv.spl ((cp p).app (cp q)) ([],.nil):=by
 simp only [flat,Lv.tid]
 congr 1
 rw [mI];rfl
def qt (a b:Nat)(p:U):Lv.tid (flat (.mat a b p)).2=if a=b then td p else if(td p).2.isNil then([],.nil)else([],.thr .m a b (td p).1 (td p).2 .nil):=by
 have G:(Lv.kept (flat p).1 (Lv.tid (flat p).2))=td p:=rfl;simp only [flat,Lv.tid,G,O5,Lv.aY];by_cases h:a=b<;>simp [h]
def qy (p:U):Lv.tid (flat (.rep p)).2=if(td p).2.isNil then([],.nil)else([],.thr .p 0 0 (td p).1 (td p).2 .nil):=by
 have G:(Lv.kept (flat p).1 (Lv.tid (flat p).2))=td p:=rfl;simp only [flat,Lv.tid,G];simp
def bK:∀u:U,((td u).2.len=0↔u.dead=true)/\((cp u).len=0↔u.dead=true)/\(td u).2.gb=true/\(∀ps,(td u).2= .sum ps .nil->2<=ps.len):=by
 intro u;have β:∀u:U,(((td u).2.len=0↔u.dead=true)/\(td u).2.gb=true/\(∀ps,(td u).2= .sum ps .nil->2<=ps.len))->((cp u).len=0↔u.dead=true):=by
  intro u ⟨h,_,h2⟩;rw [<-h];unfold cp Lv.prt;split
  ·rename_i e;rw [e]
  ·rename_i ps e;have :=h2 ps e;rw [e];split<;>simp [Lv.len,Lv.fe]<;>omega
  ·rename_i e1 e2;cases e:(td u).2<;>simp [Lv.len]
   exact e1 e
 suffices h:((td u).2.len=0↔u.dead=true)/\(td u).2.gb=true/\(∀ps,(td u).2= .sum ps .nil->2<=ps.len)from⟨h.1,β u h,h.2⟩
 induction u with
 | nil=>simp [tc,flat,Lv.tid,Lv.len,T.dead,Lv.gb]
 | snd a b p G=>simp [tc,flat,Lv.tid,Lv.len,T.dead,Lv.gb]
 | rcv a b p G=>simp [tc,flat,Lv.tid,Lv.len,T.dead,Lv.gb]
 | tau p G=>simp [tc,flat,Lv.tid,Lv.len,T.dead,Lv.gb]
 | res x p G=>exact G
 | par p q G H=>
  have e:(td (.par p q)).2=(td p).2.app (td q).2:=by simp only [tc,flat,Lv.cO _ _ (cf p)]
  rw [e];refine⟨?_,?_,λps hs=>?_⟩
  ·rw [Lv.fe,T.dead,OA,<-G.1,<-H.1];omega
  ·rw [Lv.pQ,G.2.1,H.2.1];rfl
  ·cases h:(td p).2 with
   | nil=>rw [h]at hs;exact H.2.2 ps hs
   | thr=>rw [h]at hs;cases hs
   | part=>rw [h]at hs;cases hs
   | sum ε n=>
    rw [h]at hs;simp only [Lv.app,Lv.sum.injEq]at hs;obtain⟨rfl,hn⟩:=hs;have:n= .nil:=by
     cases n<;>simp [Lv.app]at hn
     rfl
    subst this;exact G.2.2 _ h
 | mat a b p G=>
  rw [tc,qt,Lv.dH];by_cases γ:a=b
  ·rw [O' γ];exact G
  ·rw [OP γ];by_cases hd:(td p).2.len=0
   ·simp only [hd,decide_true,Qu,Lv.len,T.dead,G.1.1 hd,Lv.gb,Qe];intro ps h;cases h
   ·have:p.dead=false:=by
     cases h:p.dead with
     | false=>rfl
     | true=>exact absurd (G.1.2 h) hd
    simp [hd,Lv.len,T.dead,this,Lv.gb]
 | rep p G=>
  rw [tc,qy,Lv.dH];by_cases hd:(td p).2.len=0
  ·simp only [hd,decide_true,Qu,Lv.len,T.dead,G.1.1 hd,Lv.gb,Qe];intro ps h;cases h
  ·have:p.dead=false:=by
    cases h:p.dead with
    | false=>rfl
    | true=>exact absurd (G.1.2 h) hd
   simp [hd,Lv.len,T.dead,this,Lv.gb]
 | sum p q G H=>
  have h1:=β p G;have h2:=β q H;rw [tc,p9];have hlen:((cp p).app (cp q)).len=0↔(T.sum p q).dead=true:=by
   rw [Lv.fe,T.dead,OA,<-h1,<-h2];omega
  have α:∀u:U,(((td u).2.len=0↔u.dead=true)/\(td u).2.gb=true/\(∀ps,(td u).2= .sum ps .nil->2<=ps.len))->∀o r,cp u= .part o r .nil->o=(td u).1/\r=(td u).2/\r.len≠0:=by
   intro u ⟨h,h3,h4⟩ o r he;unfold cp Lv.prt at he;split at he
   ·cases he
   ·rename_i ps e;split at he
    ·rw [Lv.aY]at he;have :=h4 ps e;rw [he]at this;simp [Lv.len]at this
    ·cases he;exact⟨rfl,rfl,by rw [e];simp [Lv.len]⟩
   ·rename_i e1 e2;cases he;refine⟨rfl,rfl,λJ=>e1 ?_⟩;cases e:(td u).2<;>rw [e]at J<;>first | rfl | (simp [Lv.len]at J)
  unfold Lv.spl;split
  ·rename_i e;rw [e]at hlen;simp only [Lv.len,true_iff]at hlen;simp [Lv.len,hlen,Lv.gb]
  ·rename_i o r e;have hl:(T.sum p q).dead=false:=by
    cases h:(T.sum p q).dead with
    | false=>rfl
    | true=>rw [<-hlen,e]at h;simp [Lv.len]at h
   simp only [Lv.aY,hl];have key:(cp p= .nil/\cp q= .part o r .nil)\/(cp p= .part o r .nil/\cp q= .nil):=by
    cases hc:cp p with
    | nil=>rw [hc]at e;exact .inl ⟨rfl,e⟩
    | thr=>rw [hc]at e;cases e
    | sum=>rw [hc]at e;cases e
    | part o' r' n=>
     rw [hc]at e;simp only [Lv.app,Lv.part.injEq]at e;obtain⟨rfl,rfl,e⟩:=e;cases n<;>simp only [Lv.app]at e
     ·exact .inr ⟨rfl,e⟩
     all_goals cases e
   rcases key with⟨_,hc⟩ | ⟨hc,_⟩
   ·obtain⟨_,rfl,J⟩:=α q H o r hc;exact⟨by simp [J],H.2.1,H.2.2⟩
   ·obtain⟨_,rfl,J⟩:=α p G o r hc;exact⟨by simp [J],G.2.1,G.2.2⟩
  ·rename_i ps e1 e2;have δ:((cp p).app (cp q)).len≠0:=by
    intro J;apply e1;cases h:(cp p).app (cp q)<;>rw [h]at J<;>first | rfl | (simp [Lv.len]at J)
   have hl:(T.sum p q).dead=false:=by
    cases h:(T.sum p q).dead with
    | false=>rfl
    | true=>exact absurd (hlen.2 h) δ
   refine⟨by simp [Lv.len,hl],rfl,λε hs=>?_⟩;simp only [Lv.sum.injEq,Qz]at hs;subst hs;have Z:∀u:U,(((td u).2.len=0↔u.dead=true)/\(td u).2.gb=true/\(∀ps,(td u).2= .sum ps .nil->2<=ps.len))->(cp u).len=1->∃o r,cp u= .part o r .nil:=by
    intro u ⟨h,h3,h4⟩ hl;unfold cp Lv.prt at hl|-;split at hl
    ·simp [Lv.len]at hl
    ·rename_i ps e;split at hl
     ·rw [Lv.aY]at hl;have :=h4 ps e;omega
     ·rename_i hh;rw [OP hh];exact⟨_,_,rfl⟩
    ·exact⟨_,_,rfl⟩
   rw [Lv.fe]at δ|-;rcases Qi 1 ((cp p).len+(cp q).len)with h | h
   ·omega
   ·exfalso;rcases Q1 (cp p).len with J | J
    ·obtain⟨o,r,hc⟩:=Z q H (by omega);have:cp p= .nil:=by cases hh:cp p<;>rw [hh]at J<;>first | rfl | (simp [Lv.len]at J)
     exact e2 o r (by rw [this,hc];rfl)
    ·obtain⟨o,r,hc⟩:=Z p G (by omega);have:cp q= .nil:=by
      have J:(cp q).len=0:=by omega
      cases hh:cp q<;>rw [hh]at J<;>first | rfl | (simp [Lv.len]at J)
     exact e2 o r (by rw [this,hc];rfl)
def J6 (x:Nat)(ps:Lv)(n:List Nat×Lv):(Lv.spl ps n).2.has x=(ps.has x||n.2.has x):=by
 unfold Lv.spl;split<;>simp [Lv.has,Lv.dj]
def J1 (x:Nat)(o:List Nat)(q n:Lv):(Lv.prt o q n).has x=(q.has x||n.has x):=by
 unfold Lv.prt;split
 ·simp [Lv.has]
 ·split<;>simp [Lv.has,Lv.dj]
 ·simp [Lv.has]
def IE (x:Nat)(u:U):(cp u).has x=(td u).2.has x:=by
 simp [cp,J1,Lv.has]
def lT (u:U):u.dead=false↔(td u).2.len≠0:=by
 rw [Ne,(bK u).1];simp
def iE {l:Lv}(h:l.len=0):l= .nil:=by
 cases l<;>first | rfl | (simp [Lv.len]at h)
def m7 {u:U}(h:u.dead=true):(td u).2= .nil:=iE ((bK u).1.2 h)
def dS (u:U):(td u).2.isNil=u.dead:=by
 rw [Lv.dH];cases h:u.dead with
 | true=>simp [(bK u).1.2 h]
 | false=>simpa using(lT u).1 h
def gL:∀(u:U) (x:Nat),x∉BV u->((td u).2.has x=true↔u.Us x):=by
 intro u
 induction u with
 | nil=>intro x _;simp [tc,flat,Lv.tid,Lv.has,T.Us]
 | snd a b p H=>
  intro x J;have hk:(Lv.kept (flat p).1 (Lv.tid (flat p).2))=td p:=rfl;have :=H x J;simp [tc,flat,Lv.tid,Lv.has,T.Us,hk];rw [<-tc,this,<-RT,eq_comm (a:=a),eq_comm (a:=b)]
 | rcv a y p H=>
  intro x J;have G:x≠y/\x∉BV p:=by simpa [BV]using J
  have hk:(Lv.kept (flat p).1 (Lv.tid (flat p).2))=td p:=rfl;have :=H x G.2;simp [tc,flat,Lv.tid,Lv.has,T.Us,hk,G.1];rw [<-tc,this,eq_comm (a:=a)];simp [Ry G.1]
 | tau p H=>
  intro x J;have hk:(Lv.kept (flat p).1 (Lv.tid (flat p).2))=td p:=rfl;simp [tc,flat,Lv.tid,Lv.has,T.Us,hk];rw [<-tc,H x J]
 | sum p q H α=>
  intro x J;have G:x∉BV p/\x∉BV q:=by simpa [BV]using J
  rw [tc,p9,J6,Lv.dj,IE,IE];simp [T.Us,Lv.has,H x G.1,α x G.2]
 | par p q H α=>
  intro x J;have G:x∉BV p/\x∉BV q:=by simpa [BV]using J
  have e:(td (.par p q)).2=(td p).2.app (td q).2:=by simp only [tc,flat,Lv.cO _ _ (cf p)]
  rw [e,Lv.dj];simp [T.Us,H x G.1,α x G.2]
 | res y p H=>
  intro x J;have G:x≠y/\x∉BV p:=by simpa [BV]using J
  show(td p).2.has x=true↔_;simp [T.Us,H x G.2,G.1]
 | mat a b p H=>
  intro x J;have :=H x J;rw [tc,qt];by_cases Z:a=b
  ·subst Z;simp [T.Us,this]
  ·rw [OP Z,dS];cases hd:p.dead with
   | true=>simp [Lv.has,T.Us,hd,Z]
   | false=>
    simp [Lv.has,T.Us,hd,Z,this];rw [<-RT,eq_comm (a:=a),eq_comm (a:=b)]
 | rep p H=>
  intro x J;rw [tc,qy,dS];cases hd:p.dead with
  | true=>simp [Lv.has,T.Us];exact T.bF hd
  | false=>simp [Lv.has,T.Us,H x J]
def qP (own:List Nat)(r:List Nat×Lv):Lv.kept [] (Lv.kept own r)=Lv.kept own r:=by
 simp [Lv.kept,List.filter_filter]
def Hi (u:U):Lv.spl (cp u) ([],.nil)=td u:=by
 have G:=(bK u).2.2.2;have Z:=(bK u).2.2.1;have H:(td u).2= .nil->(td u).1=[]:=by
  intro e;show List.filter (λx=>(td u).2.has x) _=[];rw [e];simp [Lv.has]
 unfold cp Lv.prt;split
 ·rename_i e;simp only [Lv.spl];exact Prod.ext (H e).symm e.symm
 ·rename_i ps e;split
  ·rename_i J;rw [Lv.aY];have :=G ps e;unfold Lv.spl;split
   ·simp [Lv.len]at this
   ·simp [Lv.len]at this
   ·exact Prod.ext (by simpa using J.symm) e.symm
  ·simp [Lv.spl,Lv.aY]
 ·simp [Lv.spl,Lv.aY]
def filter_false {l:List Nat}{f:Nat->Bool}(h:∀x∈l,f x=false):l.filter f=[]:=by
 simpa [List.filter_eq_nil_iff]using h
def Lv.WO:Lv->Prop
 | .nil=>True
 | .thr _ _ _ o r n=>(∀x∈o,r.has x=true)/\r.WO/\n.WO
 | .sum ps n=>ps.WO/\n.WO
 | .part o q n=>(∀x∈o,q.has x=true)/\q.WO/\n.WO
def qM:∀l m:Lv,(l.app m).WO↔l.WO/\m.WO
 | .nil,m=>by simp [Lv.app,Lv.WO]
 | .thr k a b o r n,m=>by simp only [Lv.app,Lv.WO,qM n m,QN]
 | .sum ps n,m=>by simp only [Lv.app,Lv.WO,qM n m,QN]
 | .part o q n,m=>by simp only [Lv.app,Lv.WO,qM n m,QN]
def ue (own:List Nat)(r:List Nat×Lv):∀x∈(Lv.kept own r).1,(Lv.kept own r).2.has x=true:=by
 intro y G;simp only [Lv.kept,QE]at G;exact G.2
def Li {o:List Nat}{q n:Lv}(h:∀x∈o,q.has x=true)(H:q.WO)(G:n.WO):(Lv.prt o q n).WO:=by
 unfold Lv.prt;split
 ·exact G
 ·split
  ·exact(qM _ _).2 ⟨H.1,G⟩
  ·exact⟨h,H,G⟩
 ·exact⟨h,H,G⟩
def EK:∀(l:Lv),(Lv.tid l).2.WO/\∀x∈(Lv.tid l).1,(Lv.tid l).2.has x=true:=by
 intro l
 induction l with
 | nil=>exact⟨trivial,λx H=>by simp [Lv.tid]at H⟩
 | thr k a b o r n Z G=>
  have hk:=ue o (Lv.tid r);simp only [Lv.tid];split
  ·refine⟨(qM _ _).2 ⟨Z.1,G.1⟩,λx H=>?_⟩;simp only [OH]at H;rw [Lv.dj];rcases H with H | H
   ·simp [hk x H]
   ·simp [G.2 x H]
  ·split
   ·exact G
   ·refine⟨⟨hk,Z.1,G.1⟩,λx H=>?_⟩;simp [Lv.has,G.2 x H]
 | sum ps n J G=>
  simp only [Lv.tid];unfold Lv.spl;split
  ·exact G
  ·rename_i o q e;rw [e]at J;refine⟨(qM _ _).2 ⟨J.1.2.1,G.1⟩,λx H=>?_⟩;simp only [OH]at H;rw [Lv.dj];rcases H with H | H
   ·simp [J.1.1 x H]
   ·simp [G.2 x H]
  ·exact⟨⟨J.1,G.1⟩,λx H=>by simp [Lv.has,G.2 x H]⟩
 | part o q n α G=>
  simp only [Lv.tid];exact⟨Li (ue o _) α.1 G.1,λx H=>by simp at H⟩
def xu:∀(u:U),(∀x∈(flat u).1,x∈BV u)/\∀x∈(Lv.tid (flat u).2).1,x∈BV u:=by
 intro u;have Z:∀u:U,((∀x∈(flat u).1,x∈BV u)/\∀x∈(Lv.tid (flat u).2).1,x∈BV u)->∀x∈(td u).1,x∈BV u:=by
  intro u h x G;have G:x∈(Lv.kept (flat u).1 (Lv.tid (flat u).2)).1:=G;simp only [Lv.kept,QE,OH]at G;exact G.1.elim (h.1 x) (h.2 x)
 have α:∀u:U,(∀x∈(td u).1,x∈BV u)->∀o q n,cp u= .part o q n->(2<=(cp u).len)\/∀x∈o,x∈BV u:=by
  intro u h o q n e;have h1:=(bK u).2.2.2;unfold cp Lv.prt at e|-;split at e
  ·cases e
  ·rename_i ps e';split at e
   ·rename_i hh;rw [O' hh];left;rw [Lv.aY];exact h1 ps e'
   ·cases e;exact .inr h
  ·cases e;exact .inr h
 induction u with
 | nil=>simp [flat,Lv.tid]
 | snd a b p H=>simp [flat,Lv.tid]
 | rcv a x p H=>simp [flat,Lv.tid]
 | tau p H=>simp [flat,Lv.tid]
 | rep p H=>rw [qy];split<;>simp [flat]
 | mat a b p H=>
  rw [qt];refine⟨by simp [flat],?_⟩;split
  ·exact Z p H
  ·split<;>simp
 | res x p H=>
  refine⟨λy hy=>?_,λy hy=>OJ _ (H.2 y hy)⟩;simp only [flat,OY]at hy;rcases hy with rfl | hy
  ·exact Pb ..
  ·exact OJ _ (H.1 y hy)
 | par p q H J=>
  simp only [flat,Lv.cO _ _ (cf p),OH,BV];exact⟨λx G=>G.imp (H.1 x) (J.1 x),λx G=>G.imp (H.2 x) (J.2 x)⟩
 | sum p q H J=>
  refine⟨by simp [flat],?_⟩;rw [p9];intro x G;unfold Lv.spl at G;split at G
  ·simp at G
  ·rename_i o r e;simp only [O5]at G;simp only [BV,OH];have hl:=PA Lv.len e;rw [Lv.fe]at hl;simp only [Lv.len]at hl;rcases Q1 (cp p).len with h0 | h0
   ·rw [iE h0]at e;rcases α q (Z q J) o r .nil e with h | h
    ·omega
    ·exact .inr (h x G)
   ·have:cp q= .nil:=iE (by omega);rw [this,Lv.aY]at e;rcases α p (Z p H) o r .nil e with h | h
    ·omega
    ·exact .inl (h x G)
  ·simp at G
def ND (u:U):(td u).1=((flat u).1++(Lv.tid (flat u).2).1).filter λx=>(td u).2.has x:=rfl
def EF {u:U}{x:Nat}(hb:x∉BV u)(G:¬u.Fr x):(td u).2.has x=false:=by
 cases h:(td u).2.has x with
 | false=>rfl
 | true=>exact absurd (T.bj ((gL u x hb).1 h)) G
def Hq {l:List U}(h:(tp l).len=0):l=[]:=by
 rw [CW]at h;exact Pa h
def vA (a b c d:List Nat):((a++b)++(c++d)).Perm ((a++c)++(b++d)):=by
 rw [Pe,Pe];refine List.Perm.append_left a ?_;rw [<-Pe,<-Pe];exact List.Perm.append_right d QB
def gK:∀u:U,Uq u->(td u).2=tl (an u).2/\(td u).1.Perm (an u).1/\cp u=tp (ax u):=by
 intro u
 induction u with
 | nil=>intro _;simp [td,Lv.tidy,Lv.kept,flat,Lv.tid,an,tl,cp,Lv.prt,ax,tp]
 | snd a b p H=>
  intro h;have hk:(Lv.kept (flat p).1 (Lv.tid (flat p).2))=td p:=rfl;have e:td (.snd a b p)=([],.thr .s a b (td p).1 (td p).2 .nil):=by simp [td,Lv.tidy,flat,Lv.tid,Lv.kept]
  refine⟨by rw [e];rfl,by rw [e];exact PI _,?_⟩;rw [cp,ax,tp,e];rfl
 | rcv a x p H=>
  intro h;have e:td (.rcv a x p)=([],.thr .r a x (td p).1 (td p).2 .nil):=by simp [td,Lv.tidy,flat,Lv.tid,Lv.kept]
  refine⟨by rw [e];rfl,by rw [e];exact PI _,?_⟩;rw [cp,ax,tp,e];rfl
 | tau p H=>
  intro h;have e:td (.tau p)=([],.thr .t 0 0 (td p).1 (td p).2 .nil):=by simp [td,Lv.tidy,flat,Lv.tid,Lv.kept]
  refine⟨by rw [e];rfl,by rw [e];exact PI _,?_⟩;rw [cp,ax,tp,e];rfl
 | rep p H=>
  intro h;have e:td (.rep p)=if p.dead then([],.nil)else([],.thr .p 0 0 (td p).1 (td p).2 .nil):=by
   show Lv.kept [] _=_;rw [qy,dS];split<;>simp [Lv.kept]
  unfold cp;rw [e,an,ax];split
  ·exact⟨rfl,PI _,rfl⟩
  ·rename_i hd;rw [OP hd]at e;refine⟨rfl,PI _,?_⟩;rw [tp,e];rfl
 | mat a b p H=>
  intro h;have e:td (.mat a b p)=if a=b then td p else if p.dead then([],.nil)else([],.thr .m a b (td p).1 (td p).2 .nil):=by
   show Lv.kept [] _=_;rw [qt,dS];split
   ·exact qP _ _
   ·split<;>simp [Lv.kept]
  have H:=H h.mat;unfold cp;rw [e,an,ax];split
  ·exact H
  ·rename_i μ;rw [OP μ]at e;split
   ·exact⟨rfl,PI _,rfl⟩
   ·rename_i hd;rw [OP hd]at e;refine⟨rfl,PI _,?_⟩;rw [tp,e];rfl
 | res x p H=>
  intro h;obtain⟨h1,h2,h3⟩:=H h.res;have J:(td (.res x p)).2=(td p).2:=rfl;have Z:(td (.res x p)).1=if(td p).2.has x then x::(td p).1 else(td p).1:=by
   rw [ND,J];simp only [flat,PC,List.filter_cons];rfl
  refine⟨by rw [J];exact h1,?_,?_⟩
  ·rw [Z,an];split
   ·exact List.Perm.cons x h2
   ·exact h2
  ·rw [ax];split
   ·rename_i G;rw [O' G]at Z;unfold cp Lv.prt;rw [tp,tp];split
    ·rename_i e;rw [J]at e;rw [e]at G;cases G
    ·rename_i ps e;rw [Z];rw [OP (by simp)]
    ·rw [Z]
   ·rename_i G;rw [OP G]at Z;rw [<-h3,cp,cp,Z,J]
 | par p q H β=>
  intro h;obtain⟨h1,h2,h3⟩:=H h.gP;obtain⟨k1,k2,k3⟩:=β h.ga;have J:(td (.par p q)).2=(td p).2.app (td q).2:=by simp only [tc,flat,Lv.cO _ _ (cf p)]
  have Z:(td (.par p q)).1=(((flat p).1++(flat q).1)++((Lv.tid (flat p).2).1++(Lv.tid (flat q).2).1)).filter λx=>(td p).2.has x||(td q).2.has x:=by
   rw [ND,J];simp only [flat,Lv.cO _ _ (cf p)];exact Rz λx _=>Lv.dj x _ _
  have η:=Pg.1 h.nd;have θ:∀x,x∈BV p->(td q).2.has x=false:=λx G=>EF (λhq=>η.2.2 x G x hq rfl) λhf=>h.nf x (O9 _ G) (.inr hf)
  have ι:∀x,x∈BV q->(td p).2.has x=false:=λx G=>EF (λhq=>η.2.2 x hq x G rfl) λhf=>h.nf x (O0 _ G) (.inl hf)
  have κ:((flat p).1++(Lv.tid (flat p).2).1).filter (λx=>(td p).2.has x||(td q).2.has x)=(td p).1:=by
   rw [ND];refine Rz λx G=>?_
   rw [θ x ((OH.1 G).elim ((xu p).1 x) ((xu p).2 x)),QT]
  have γ:((flat q).1++(Lv.tid (flat q).2).1).filter (λx=>(td p).2.has x||(td q).2.has x)=(td q).1:=by
   rw [ND];refine Rz λx G=>?_
   rw [ι x ((OH.1 G).elim ((xu q).1 x) ((xu q).2 x)),QU]
  refine⟨by rw [J,h1,k1,an,eU],?_,?_⟩
  ·rw [Z,an];refine((vA _ _ _ _).filter _).trans ?_;rw [PD,κ,γ];exact h2.append k2
  ·rw [ax];split
   ·rename_i hd;have ep:=m7 hd;have ν:(Lv.tid (flat p).2).1=[]:=by
     refine QK.2 λx G=>?_
     have :=(EK (flat p).2).2 x G;rw [<-tc,ep]at this;cases this
    have α:(flat p).1.filter (λx=>(td p).2.has x||(td q).2.has x)=[]:=filter_false λx G=>by
     rw [ep,θ x ((xu p).1 x G)];rfl
    rw [<-k3,cp,cp,Z,J,ep];rw [ν,Pv,Pe,PD];rw [ep]at α γ;rw [α,Pv,γ];rfl
   ·split
    ·rename_i hd;have δ:=m7 hd;have ξ:(Lv.tid (flat q).2).1=[]:=by
      refine QK.2 λx G=>?_
      have :=(EK (flat q).2).2 x G;rw [<-tc,δ]at this;cases this
     have α:(flat q).1.filter (λx=>(td p).2.has x||(td q).2.has x)=[]:=filter_false λx G=>by
      rw [δ,ι x ((xu q).1 x G)];rfl
     rw [<-h3,cp,cp,Z,J,ξ,O5,PD,PD,α,O5,<-PD,κ,δ,Lv.aY]
    ·rename_i ε ζ;have l1:=(lT p).1 (by simpa using ε);have l2:=(lT q).1 (by simpa using ζ);have hl:2<=(td (.par p q)).2.len:=by rw [J,Lv.fe];omega
     unfold cp Lv.prt;rw [tp,tp];split
     ·rename_i e;rw [e]at hl;simp [Lv.len]at hl
     ·rename_i ps e;rw [e]at hl;simp [Lv.len]at hl
     ·rfl
 | sum p q H β=>
  intro h;obtain⟨h1,h2,h3⟩:=H h.eJ;obtain⟨k1,k2,k3⟩:=β h.dX;have e:td (.sum p q)=if p.dead then td q else if q.dead then td p else([],.sum (tp (ax p++ax q)) .nil):=by
   show Lv.kept [] _=_;rw [p9];split
   ·rename_i hd;rw [iE ((bK p).2.1.2 hd)];show Lv.kept [] (Lv.spl (cp q) ([],.nil))=_;rw [Hi];exact qP _ _
   ·rename_i ε;split
    ·rename_i hd;rw [iE ((bK q).2.1.2 hd),Lv.aY,Hi];exact qP _ _
    ·rename_i ζ;have l1:(cp p).len≠0:=λe=>ε ((bK p).2.1.1 e)
     have l2:(cp q).len≠0:=λe=>ζ ((bK q).2.1.1 e)
     rw [h3,k3,<-uY]at*;have:2<=(tp (ax p++ax q)).len:=by rw [uY,Lv.fe];omega
     unfold Lv.spl;split
     ·rename_i e;rw [e]at this;simp [Lv.len]at this
     ·rename_i e;rw [e]at this;simp [Lv.len]at this
     ·simp [Lv.kept]
  unfold cp;rw [e,an,ax];split
  ·rename_i hd;have:ax p=[]:=Hq (by rw [<-h3];exact(bK p).2.1.2 hd);rw [this,Pv];exact⟨k1,k2,k3⟩
  ·split
   ·rename_i hd;have:ax q=[]:=Hq (by rw [<-k3];exact(bK q).2.1.2 hd);rw [this,O5];exact⟨h1,h2,h3⟩
   ·exact⟨rfl,PI _,by simp [Lv.prt,Lv.aY]⟩
abbrev Tx:=List UInt8
def T.text:T UInt8->Tx
 | .nil=>[48]
 | .snd a b p=>a::33::b::46::p.text
 | .rcv a x p=>a::63::x::46::p.text
 | .tau p=>126::46::p.text
 | .sum p q=>40::(p.text++(43::(q.text++[41])))
 | .par p q=>40::(p.text++(38::(q.text++[41])))
 | .res x p=>35::x::46::p.text
 | .mat a b p=>91::a::61::b::93::p.text
 | .rep p=>42::p.text
def jR (s t:Tx):Bool:=decide (s<=t)
def ie (a b c:Tx)(h:jR a b=true)(k:jR b c=true):jR a c=true:=by
 simp only [jR,OK]at*;exact List.le_trans h k
def qN (a b:Tx):(jR a b||jR b a)=true:=by
 simp only [jR,P0,OK];exact List.le_total a b
def Cl (a b:Tx)(h:jR a b=true)(k:jR b a=true):a=b:=by
 simp only [jR,OK]at*;exact List.le_antisymm h k
def aK (l:List Tx):List Tx:=l.mergeSort jR
def aG (l:List Tx):(aK l).Perm l:=List.mergeSort_perm l jR
def hZ (l:List Tx):(aK l).Pairwise (λa b=>jR a b=true):=List.pairwise_mergeSort ie qN l
def pn {l m:List Tx}(hm:m.Pairwise (λa b=>jR a b=true))(G:m.Perm l):aK l=m:=
 List.Perm.eq_of_pairwise (λa b _ _=>Cl a b) (hZ l) hm ((aG l).trans G.symm)
def lB {l m:List Tx}(h:l.Perm m):aK l=aK m:=pn (hZ m) ((aG m).trans h.symm)
def joinS (sign:UInt8):List Tx->Tx
 | []=>[]
 | [s]=>s
 | s::l=>40::(s++(sign::(joinS sign l++[41])))
def bJ (l:List Tx):Tx:=(aK l).headD []
def cK {l:List Tx}(h:l≠[]):bJ l∈l/\∀s∈l,jR (bJ l) s=true:=by
 have G:=aG l;have H:=hZ l;unfold bJ;cases e:aK l with
 | nil=>rw [e]at G;exact absurd G.symm.eq_nil h
 | cons a r=>
  rw [e]at G H;refine⟨G.subset (Pb ..),λs hm=>?_⟩;have :=G.symm.subset hm;rcases OY.1 this with rfl | hr
  ·simp [jR]
  ·exact(Ro.1 H).1 s hr
def ik {l:List Tx}{r:Tx}(h:r∈l)(H:∀s∈l,jR r s=true):bJ l=r:=by
 have G:l≠[]:=λe=>by rw [e]at h;cases h
 obtain⟨J,Z⟩:=cK G;exact Cl _ _ (Z r h) (H _ J)
def pz {l m:List Tx}(h:∀s,s∈l↔s∈m):bJ l=bJ m:=by
 by_cases H:l=[]
 ·subst H;have:m=[]:=QK.2 λs G=>by have :=(h s).2 G;cases this
  rw [this]
 ·have hm:m≠[]:=λe=>H (QK.2 λs G=>by have :=(h s).1 G;rw [e]at this;cases this)
  obtain⟨J,Z⟩:=cK hm;exact ik ((h _).2 J) λs G=>Z s ((h s).1 G)
def Ku (h:Tx)(s t:Tx):jR (h++s) (h++t)=jR s t:=by
 unfold jR
 congr 1
 induction h with
 | nil=>rfl
 | cons a h G=>simp only [PC,List.cons_le_cons_iff,UInt8.lt_irrefl,Qe,Sa,G]
def vu (h:Tx){l:List Tx}(G:l≠[]):bJ (l.map (h++·))=h++bJ l:=by
 obtain⟨H,J⟩:=cK G;refine ik (Qb H) λs Z=>?_
 obtain⟨t,ht,rfl⟩:=Pf.1 Z;rw [Ku];exact J t ht
def ins {α:Type}(x:α):List α->List (List α)
 | []=>[[x]]
 | y::l=>(x::y::l)::(ins x l).map (y::·)
def perms {α:Type}:List α->List (List α)
 | []=>[[]]
 | x::l=>(perms l).flatMap (ins x)
def tu {α:Type}(x:α):∀(l m:List α),m∈ins x l↔∃s t,l=s++t/\m=s++x::t
 | [],m=>by
  simp only [ins,OL];constructor
  ·rintro rfl;exact⟨[],[],rfl,rfl⟩
  ·rintro⟨s,t,e,rfl⟩
   obtain⟨rfl,rfl⟩:=List.append_eq_nil_iff.1 e.symm;rfl
 | y::l,m=>by
  simp only [ins,OY,Pf];constructor
  ·rintro(rfl | ⟨m',hm,rfl⟩)
   ·exact⟨[],y::l,rfl,rfl⟩
   ·obtain⟨s,t,rfl,rfl⟩:=(tu x l m').1 hm;exact⟨y::s,t,rfl,rfl⟩
  ·rintro⟨s,t,e,rfl⟩
   cases s with
   | nil=>simp only [Pv]at e;subst e;exact .inl rfl
   | cons z s=>
    simp only [PC,Po]at e;obtain⟨rfl,rfl⟩:=e;exact .inr ⟨s++x::t,(tu x _ _).2 ⟨s,t,rfl,rfl⟩,rfl⟩
def da {α:Type}:∀(l m:List α),m∈perms l↔m.Perm l
 | [],m=>by simp [perms]
 | x::l,m=>by
  simp only [perms,Pk];constructor
  ·rintro⟨m',G,H⟩
   obtain⟨s,t,rfl,rfl⟩:=(tu x m' m).1 H;exact Ri.trans (List.Perm.cons x ((da l _).1 G))
  ·intro h;obtain⟨s,t,rfl⟩:=List.append_of_mem (h.symm.subset (Pb ..));exact⟨s++t,(da l _).2 ((R0 x).1 (Ri.symm.trans h)),(tu x _ _).2 ⟨s,t,rfl,rfl⟩⟩
def pY {α:Type}(l:List α):perms l≠[]:=λe=>by
 have :=(da l l).2 (PI l);rw [e]at this;cases this
def Gm:List UInt8:=(List.range 26).map λi=>UInt8.ofNat (97+i)
abbrev Tk:=UInt8->Bool
def wV (tk:Tk):Option UInt8:=Gm.find? λc=> !tk c
def jc (tk:Tk):UInt8:=(wV tk).getD 122
def cY (tk:Tk)(c:UInt8):Tk:=λd=>tk d||d==c
def lets:Nat->Tk->List UInt8
 | 0,_=>[]
 | n+1,tk=>jc tk::lets n (cY tk (jc tk))
def addK:List UInt8->Tk->Tk
 | [],tk=>tk
 | c::l,tk=>addK l (cY tk c)
def gX:Nat->Tk->Bool
 | 0,_=>false
 | n+1,tk=>(wV tk).isNone||gX n (cY tk (jc tk))
abbrev Rh:=Nat->UInt8
def asg:List Nat->List UInt8->Rh->Rh
 | x::π,c::l,ρ=>asg π l (aI ρ x c)
 | _,_,ρ=>ρ
def wrap:List UInt8->Tx->Tx
 | [],s=>s
 | c::l,s=>35::c::46::wrap l s
def Bs (l:List UInt8)(s:Tx):wrap l s=wrap l []++s:=by
 induction l with
 | nil=>rfl
 | cons c l G=>rw [wrap,G,wrap];rfl
def gd:∀(n:Nat) (tk:Tk),(lets n tk).length=n
 | 0,_=>rfl
 | n+1,tk=>by rw [lets,Ov,gd]
def aV (own:List Nat)(f:Rh->Tk->List Tx)(ρ:Rh)(tk:Tk):Tx:=
 if(f ρ tk).isEmpty then [48]else
 let ls:=lets own.length tk
 wrap ls (bJ ((perms own).map λπ=>joinS 38 (aK (f (asg π ls ρ) (addK ls tk)))))
def kText (k:K)(a b:UInt8)(rest:Tx):Tx:=match k with
 | .s=>a::33::b::46::rest
 | .r=>a::63::b::46::rest
 | .t=>126::46::rest
 | .m=>91::(if b< a then b else a)::61::(if b< a then a else b)::93::rest
 | .p=>42::rest
def thS:Lv->Rh->Tk->List Tx
 | .nil,_,_=>[]
 | .thr k a b o r n,ρ,tk=>(match k with
   | .r=>kText .r (ρ a) (jc tk) (aV o (thS r) (aI ρ b (jc tk)) (cY tk (jc tk)))
   | k=>kText k (ρ a) (ρ b) (aV o (thS r) ρ tk))::thS n ρ tk
 | .sum ps n,ρ,tk=>joinS 43 (aK (thS ps ρ tk))::thS n ρ tk
 | .part o q n,ρ,tk=>aV o (thS q) ρ tk::thS n ρ tk
def gw (n:Nat)(nl:Bool)(f:Tk->Bool)(tk:Tk):Bool:= !nl&&(gX n tk||f (addK (lets n tk) tk))
def thBad:Lv->Tk->Bool
 | .nil,_=>false
 | .thr k _ _ o r n,tk=>(match k with
   | .r=>(wV tk).isNone||gw o.length r.isNil (thBad r) (cY tk (jc tk))
   | _=>gw o.length r.isNil (thBad r) tk)||thBad n tk
 | .sum ps n,tk=>thBad ps tk||thBad n tk
 | .part o q n,tk=>gw o.length q.isNil (thBad q) tk||thBad n tk
def thAll:Lv->Nat
 | .nil=>0
 | .thr _ _ _ o r n=>o.length+thAll r+thAll n
 | .sum ps n=>thAll ps+thAll n
 | .part o q n=>o.length+thAll q+thAll n
def ay:Lv->Nat
 | .nil=>0
 | .thr _ _ _ o r n=>max (max o.length (ay r)) (ay n)
 | .sum ps n=>max (ay ps) (ay n)
 | .part o q n=>max (max o.length (ay q)) (ay n)
def bD:∀(l:Lv) (ρ:Rh) (tk:Tk),(thS l ρ tk).length=l.len
 | .nil,_,_=>rfl
 | .thr k a b o r n,ρ,tk=>by simp only [thS,Ov,bD n,Lv.len]
 | .sum ps n,ρ,tk=>by rw [thS,Ov,bD n,Lv.len]
 | .part o q n,ρ,tk=>by rw [thS,Ov,bD n,Lv.len]
def gU:∀(l m:Lv) (ρ:Rh) (tk:Tk),thS (l.app m) ρ tk=thS l ρ tk++thS m ρ tk
 | .nil,_,_,_=>rfl
 | .thr k a b o r n,m,ρ,tk=>by simp only [Lv.app,thS,gU n m,PC]
 | .sum ps n,m,ρ,tk=>by simp only [Lv.app,thS,gU n m,PC]
 | .part o q n,m,ρ,tk=>by simp only [Lv.app,thS,gU n m,PC]
def dc:∀(l m:Lv) (tk:Tk),thBad (l.app m) tk=(thBad l tk||thBad m tk)
 | .nil,_,_=>by simp [Lv.app,thBad]
 | .thr k a b o r n,m,tk=>by simp only [Lv.app,thBad,dc n m,Qg]
 | .sum ps n,m,tk=>by simp only [Lv.app,thBad,dc n m,Qg]
 | .part o q n,m,tk=>by simp only [Lv.app,thBad,dc n m,Qg]
def cd:∀(l m:Lv),thAll (l.app m)=thAll l+thAll m
 | .nil,_=>by simp [Lv.app,thAll]
 | .thr k a b o r n,m=>by simp only [Lv.app,thAll,cd n m];omega
 | .sum ps n,m=>by simp only [Lv.app,thAll,cd n m];omega
 | .part o q n,m=>by simp only [Lv.app,thAll,cd n m];omega
def cn:∀(l m:Lv),ay (l.app m)=max (ay l) (ay m)
 | .nil,_=>by simp [Lv.app,ay]
 | .thr k a b o r n,m=>by simp only [Lv.app,ay,cn n m];omega
 | .sum ps n,m=>by simp only [Lv.app,ay,cn n m];omega
 | .part o q n,m=>by simp only [Lv.app,ay,cn n m];omega
def lQ {own G:List Nat}{f g:Rh->Tk->List Tx}(h:own.Perm G)(J:∀ρ tk,(f ρ tk).Perm (g ρ tk))(ρ:Rh)(tk:Tk):aV own f ρ tk=aV G g ρ tk:=by
 unfold aV;have e:(f ρ tk).isEmpty=(g ρ tk).isEmpty:=by
  rw [PG,RH,RH];exact⟨λe=>by have :=J ρ tk;rw [e]at this;exact this.symm.eq_nil,λe=>by have :=J ρ tk;rw [e]at this;exact this.eq_nil⟩
 rw [e,h.length_eq];split
 ·rfl
 ·show wrap _ (bJ _)=wrap _ (bJ _)
  congr 1
  refine pz λs=>?_
  simp only [Pf,da];constructor
  ·rintro⟨π,H,rfl⟩
   exact⟨π,H.trans h,by rw [lB (J _ _)]⟩
  ·rintro⟨π,H,rfl⟩
   exact⟨π,H.trans h.symm,by rw [lB (J _ _)]⟩
def LS (u:U):Rh->Tk->Tx:=aV (td u).1 (thS (td u).2)
def dF (u:U):Tk->Bool:=gw (td u).1.length (td u).2.isNil (thBad (td u).2)
def cT (u:U):Nat:=(td u).1.length+thAll (td u).2
def bc (u:U):Nat:=max (td u).1.length (ay (td u).2)
def Ju:U->Bool
 | .snd .. =>true | .rcv .. =>true | .tau .. =>true | .mat .. =>true | .rep .. =>true | .sum .. =>true | _=>false
def yu:∀(u:U),∀t∈(an u).2,Ju t=true:=by
 intro u
 induction u with
 | nil=>intro t h;simp [an]at h
 | snd a b p G=>intro t h;simp [an]at h;subst h;rfl
 | rcv a b p G=>intro t h;simp [an]at h;subst h;rfl
 | tau p G=>intro t h;simp [an]at h;subst h;rfl
 | sum p q G H=>
  intro t h;simp only [an]at h;split at h
  ·exact H t h
  ·split at h
   ·exact G t h
   ·simp at h;subst h;rfl
 | par p q G H=>intro t h;simp only [an,OH]at h;exact h.elim (G t) (H t)
 | res x p G=>exact G
 | mat a b p G=>
  intro t h;simp only [an]at h;split at h
  ·exact G t h
  ·split at h
   ·simp at h
   ·simp at h;subst h;rfl
 | rep p G=>
  intro t h;simp only [an]at h;split at h
  ·simp at h
  ·simp at h;subst h;rfl
def thU:U->Rh->Tk->Tx
 | .snd a b p,ρ,tk=>kText .s (ρ a) (ρ b) (LS p ρ tk)
 | .rcv a x p,ρ,tk=>kText .r (ρ a) (jc tk) (LS p (aI ρ x (jc tk)) (cY tk (jc tk)))
 | .tau p,ρ,tk=>kText .t 0 0 (LS p ρ tk)
 | .mat a b p,ρ,tk=>kText .m (ρ a) (ρ b) (LS p ρ tk)
 | .rep p,ρ,tk=>kText .p 0 0 (LS p ρ tk)
 | .sum p q,ρ,tk=>joinS 43 (aK ((ax p++ax q).map λu=>LS u ρ tk))
 | _,_,_=>[]
def Hz:∀(l:List U) (ρ:Rh) (tk:Tk),thS (tp l) ρ tk=l.map λu=>LS u ρ tk
 | [],_,_=>rfl
 | u::l,ρ,tk=>by rw [tp,thS,Hz l];rfl
def H6:∀(l:List U),(∀t∈l,Ju t=true)->∀(ρ:Rh) (tk:Tk),thS (tl l) ρ tk=l.map λu=>thU u ρ tk
 | [],_,_,_=>rfl
 | u::l,h,ρ,tk=>by
  have G:=H6 l (λt H=>h t (OJ _ H)) ρ tk;have hu:=h u (Pb ..);cases u<;>first | (cases hu;done) | (simp only [tl,thS,G,O3,Hz];rfl)
def zh {u:U}(h:Uq u)(ρ:Rh)(tk:Tk):LS u ρ tk=aV (an u).1 (λρ tk=>(an u).2.map λt=>thU t ρ tk) ρ tk:=by
 obtain⟨G,H,_⟩:=gK u h;refine lQ H (λρ tk=>?_) ρ tk;rw [G,H6 _ (yu u)]
def nm (c:UInt8):Bool:=(97<=c&&c<=122)||(65<=c&&c<=90)||128<=c
def endI (l:Tx):Nat->Int->Int
 | 0,_=> -1
 | n+1,i=>
  if(l.length:Int)<=i then -1 else
  if bt l i.toNat=48 then i+1 else
  if bt l i.toNat=42 then endI l n (i+1)else
  if bt l i.toNat=126 then(if i+1< l.length/\bt l (i+1).toNat=46 then endI l n (i+2)else -1)else
  if bt l i.toNat=35 then(if i+2< l.length/\nm (bt l (i+1).toNat)=true/\bt l (i+2).toNat=46 then endI l n (i+3)else -1)else
  if bt l i.toNat=91 then(if i+4< l.length/\nm (bt l (i+1).toNat)=true/\bt l (i+2).toNat=61/\nm (bt l (i+3).toNat)=true/\bt l (i+4).toNat=93 then endI l n (i+5)else -1)else
  if bt l i.toNat=40 then
   (if endI l n (i+1)< 0\/(l.length:Int)<=endI l n (i+1)\/(bt l (endI l n (i+1)).toNat≠43/\bt l (endI l n (i+1)).toNat≠38)then -1 else
    if 0<=endI l n (endI l n (i+1)+1)/\endI l n (endI l n (i+1)+1)< l.length/\bt l (endI l n (endI l n (i+1)+1)).toNat=41 then endI l n (endI l n (i+1)+1)+1 else -1)else
  if nm (bt l i.toNat)=true then(if i+3< l.length/\(bt l (i+1).toNat=33\/bt l (i+1).toNat=63)/\nm (bt l (i+2).toNat)=true/\bt l (i+3).toNat=46 then endI l n (i+4)else -1)else -1
def ES (l:Tx):∀n i,0<=i->endI l n i= -1\/i< endI l n i/\endI l n i<=l.length:=by
 intro n;induction n with
 | zero=>intro i _;exact .inl rfl
 | succ n G=>
  intro i hi;have H:=G (i+1) (by omega);have J:=G (i+2) (by omega);have Z:=G (i+3) (by omega);have h4:=G (i+4) (by omega);have h5:=G (i+5) (by omega);have h6:=G (endI l n (i+1)+1);unfold endI
  repeat' split
  all_goals omega
def lt (c:UInt8):Bool:=97<=c&&c<=122
abbrev P:=T UInt8
def T.wf:P->Bool
 | .nil=>true | .snd a b p=>nm a&&nm b&&p.wf | .rcv a b p=>nm a&&nm b&&p.wf | .tau p=>p.wf | .sum p q=>p.wf&&q.wf
 | .par p q=>p.wf&&q.wf | .res x p=>nm x&&p.wf | .mat a b p=>nm a&&nm b&&p.wf | .rep p=>p.wf
def T.kind:P->UInt8
 | .nil=>48 | .snd .. =>33 | .rcv .. =>63 | .tau _=>126 | .sum .. =>43 | .par .. =>38 | .res .. =>35 | .mat .. =>61 | .rep _=>42
def T.parts:P->List P
 | .nil=>[] | .snd _ _ p=>[p] | .rcv _ _ p=>[p] | .tau p=>[p] | .sum p q=>[p,q] | .par p q=>[p,q] | .res _ p=>[p] | .mat _ _ p=>[p] | .rep p=>[p]
def It (t:P):0< t.text.length:=by cases t<;>simp [T.text]
def bz:∀t:P,t.size<=t.text.length
 | .nil=>by simp [T.size,T.text]
 | .snd a b p=>by have :=bz p;simp only [T.size,T.text,Ov];omega
 | .rcv a b p=>by have :=bz p;simp only [T.size,T.text,Ov];omega
 | .tau p=>by have :=bz p;simp only [T.size,T.text,Ov];omega
 | .res a p=>by have :=bz p;simp only [T.size,T.text,Ov];omega
 | .mat a b p=>by have :=bz p;simp only [T.size,T.text,Ov];omega
 | .rep p=>by have :=bz p;simp only [T.size,T.text,Ov];omega
 | .sum p q=>by have :=bz p;have :=bz q;simp only [T.size,T.text,Ov,Oy,ON];omega
 | .par p q=>by have :=bz p;have :=bz q;simp only [T.size,T.text,Ov,Oy,ON];omega
def drop_cons {l:Tx}{i:Nat}{c:UInt8}{r:Tx}(h:l.drop i=c::r):i< l.length/\bt l i=c/\l.drop (i+1)=r:=by
 have hi:i< l.length:=by
  rcases Qi i l.length with G | G
  ·exact G
  ·rw [Qo G]at h;cases h
 have e:=Ps hi;rw [h]at e;simp only [Po]at e;refine⟨hi,?_,e.2.symm⟩;rw [e.1];simp [bt,hi]
def bI {l:Tx}{i:Nat}(h:i< l.length):l.drop i=bt l i::l.drop (i+1):=by
 rw [Ps h];simp [bt,h]
def wh {c:UInt8}(h:nm c=true):c≠48/\c≠42/\c≠126/\c≠35/\c≠91/\c≠40:=by
 refine⟨?_,?_,?_,?_,?_,?_⟩<;>rintro rfl<;>revert h<;>decide
def xZ {l:Tx}:∀(t:P) (n i:Nat) (r:Tx),t.wf=true->t.size<=n->l.drop i=t.text++r->endI l n i=((i+t.text.length:Nat):Int):=by
 intro t
 induction t with
 | nil=>
  intro n i r hw H h;obtain⟨n,rfl⟩:∃m,n=m+1:=⟨n - 1,by simp only [T.size]at H;omega⟩
  obtain⟨h1,G,_⟩:=drop_cons h;unfold endI;rw [OP (by omega),OG,O' G];simp [T.text]
 | rep p Z=>
  intro n i r hw H h;simp only [T.size]at H;obtain⟨n,rfl⟩:∃m,n=m+1:=⟨n - 1,by omega⟩
  obtain⟨h1,G,J⟩:=drop_cons h;unfold endI;rw [OP (by omega),OG,OP (by rw [G];decide),O' G];have :=Z n (i+1) r hw (by omega) J;rw [Int.natCast_add]at this;simp only [Int.natCast_one]at this;rw [this];simp only [T.text,Ov];omega
 | tau p Z=>
  intro n i r hw H h;simp only [T.size]at H;obtain⟨n,rfl⟩:∃m,n=m+1:=⟨n - 1,by omega⟩
  obtain⟨h1,G,J⟩:=drop_cons h;obtain⟨k1,k2,k3⟩:=drop_cons J;have e1:((i:Int)+1).toNat=i+1:=by omega
  have :=Z n (i+2) r hw (by omega) k3;have e2:(i:Int)+2=((i+2:Nat):Int):=by omega
  unfold endI;rw [OP (by omega),OG,e1,e2,G,k2,this];rw [OP (by decide),OP (by decide),O' rfl,O' ⟨by omega,rfl⟩];simp only [T.text,Ov];omega
 | res x p Z=>
  intro n i r hw H h;simp only [T.size]at H;simp only [T.wf,OA]at hw;obtain⟨n,rfl⟩:∃m,n=m+1:=⟨n - 1,by omega⟩
  obtain⟨h1,G,J⟩:=drop_cons h;obtain⟨k1,k2,k3⟩:=drop_cons J;obtain⟨m1,m2,m3⟩:=drop_cons k3;have e1:((i:Int)+1).toNat=i+1:=by omega
  have α:((i:Int)+2).toNat=i+1+1:=by omega
  have :=Z n (i+3) r hw.2 (by omega) m3;have e2:(i:Int)+3=((i+3:Nat):Int):=by omega
  unfold endI;rw [OP (by omega),OG,e1,α,e2,G,k2,m2,this];rw [OP (by decide),OP (by decide),OP (by decide),O' rfl,O' ⟨by omega,hw.1,rfl⟩];simp only [T.text,Ov];omega
 | mat a b p Z=>
  intro n i r hw H h;simp only [T.size]at H;simp only [T.wf,OA]at hw;obtain⟨n,rfl⟩:∃m,n=m+1:=⟨n - 1,by omega⟩
  obtain⟨h1,G,J⟩:=drop_cons h;obtain⟨k1,k2,k3⟩:=drop_cons J;obtain⟨m1,m2,m3⟩:=drop_cons k3;obtain⟨o1,o2,o3⟩:=drop_cons m3;obtain⟨q1,q2,q3⟩:=drop_cons o3;have e1:((i:Int)+1).toNat=i+1:=by omega
  have α:((i:Int)+2).toNat=i+1+1:=by omega
  have e3:((i:Int)+3).toNat=i+1+1+1:=by omega
  have e4:((i:Int)+4).toNat=i+1+1+1+1:=by omega
  have :=Z n (i+5) r hw.2 (by omega) q3;have e2:(i:Int)+5=((i+5:Nat):Int):=by omega
  unfold endI;rw [OP (by omega),OG,e1,α,e2,e3,e4,G,k2,m2,o2,q2,this];rw [OP (by decide),OP (by decide),OP (by decide),OP (by decide),O' rfl,O' ⟨by omega,hw.1.1,rfl,hw.1.2,rfl⟩];simp only [T.text,Ov];omega
 | snd a b p Z=>
  intro n i r hw H h;simp only [T.size]at H;simp only [T.wf,OA]at hw;obtain⟨n,rfl⟩:∃m,n=m+1:=⟨n - 1,by omega⟩
  obtain⟨h1,G,J⟩:=drop_cons h;obtain⟨k1,k2,k3⟩:=drop_cons J;obtain⟨m1,m2,m3⟩:=drop_cons k3;obtain⟨o1,o2,o3⟩:=drop_cons m3;have e1:((i:Int)+1).toNat=i+1:=by omega
  have α:((i:Int)+2).toNat=i+1+1:=by omega
  have e3:((i:Int)+3).toNat=i+1+1+1:=by omega
  have :=Z n (i+4) r hw.2 (by omega) o3;have e2:(i:Int)+4=((i+4:Nat):Int):=by omega
  obtain⟨n1,n2,n3,n4,n5,n6⟩:=wh hw.1.1;unfold endI;rw [OP (by omega),OG,e1,α,e2,e3,G,k2,m2,o2,this];rw [OP n1,OP n2,OP n3,OP n4,OP n5,OP n6,O' hw.1.1,O' ⟨by omega,.inl rfl,hw.1.2,rfl⟩];simp only [T.text,Ov];omega
 | rcv a b p Z=>
  intro n i r hw H h;simp only [T.size]at H;simp only [T.wf,OA]at hw;obtain⟨n,rfl⟩:∃m,n=m+1:=⟨n - 1,by omega⟩
  obtain⟨h1,G,J⟩:=drop_cons h;obtain⟨k1,k2,k3⟩:=drop_cons J;obtain⟨m1,m2,m3⟩:=drop_cons k3;obtain⟨o1,o2,o3⟩:=drop_cons m3;have e1:((i:Int)+1).toNat=i+1:=by omega
  have α:((i:Int)+2).toNat=i+1+1:=by omega
  have e3:((i:Int)+3).toNat=i+1+1+1:=by omega
  have :=Z n (i+4) r hw.2 (by omega) o3;have e2:(i:Int)+4=((i+4:Nat):Int):=by omega
  obtain⟨n1,n2,n3,n4,n5,n6⟩:=wh hw.1.1;unfold endI;rw [OP (by omega),OG,e1,α,e2,e3,G,k2,m2,o2,this];rw [OP n1,OP n2,OP n3,OP n4,OP n5,OP n6,O' hw.1.1,O' ⟨by omega,.inr rfl,hw.1.2,rfl⟩];simp only [T.text,Ov];omega
 | sum p q Z β=>
  intro n i r hw H h;simp only [T.size]at H;simp only [T.wf,OA]at hw;obtain⟨n,rfl⟩:∃m,n=m+1:=⟨n - 1,by omega⟩
  have h:l.drop i=40::(p.text++43::(q.text++41::r)):=by rw [h];simp [T.text]
  obtain⟨h1,G,J⟩:=drop_cons h;have e:=Z n (i+1) _ hw.1 (by omega) J;have h4:l.drop (i+1+p.text.length)=43::(q.text++41::r):=by
   rw [<-Rj,J,RD]
  obtain⟨k1,k2,k3⟩:=drop_cons h4;have e':=β n (i+1+p.text.length+1) _ hw.2 (by omega) k3;have h5:l.drop (i+1+p.text.length+1+q.text.length)=41::r:=by
   rw [<-Rj,k3,RD]
  obtain⟨m1,m2,m3⟩:=drop_cons h5;have c1:(i:Int)+1=((i+1:Nat):Int):=by omega
  have c2:((i+1+p.text.length:Nat):Int)+1=((i+1+p.text.length+1:Nat):Int):=by omega
  unfold endI;rw [OP (by omega)];simp only [OG,G,c1,e,c2,e',k2,m2];rw [OP (by decide),OP (by decide),OP (by decide),OP (by decide),OP (by decide),O' trivial,OP,O' ⟨by omega,by omega,trivial⟩]
  ·simp only [T.text,Ov,Oy,ON];omega
  ·rintro(hh | hh | hh)
   ·omega
   ·omega
   ·exact hh.1 rfl
 | par p q Z β=>
  intro n i r hw H h;simp only [T.size]at H;simp only [T.wf,OA]at hw;obtain⟨n,rfl⟩:∃m,n=m+1:=⟨n - 1,by omega⟩
  have h:l.drop i=40::(p.text++38::(q.text++41::r)):=by rw [h];simp [T.text]
  obtain⟨h1,G,J⟩:=drop_cons h;have e:=Z n (i+1) _ hw.1 (by omega) J;have h4:l.drop (i+1+p.text.length)=38::(q.text++41::r):=by
   rw [<-Rj,J,RD]
  obtain⟨k1,k2,k3⟩:=drop_cons h4;have e':=β n (i+1+p.text.length+1) _ hw.2 (by omega) k3;have h5:l.drop (i+1+p.text.length+1+q.text.length)=41::r:=by
   rw [<-Rj,k3,RD]
  obtain⟨m1,m2,m3⟩:=drop_cons h5;have c1:(i:Int)+1=((i+1:Nat):Int):=by omega
  have c2:((i+1+p.text.length:Nat):Int)+1=((i+1+p.text.length+1:Nat):Int):=by omega
  unfold endI;rw [OP (by omega)];simp only [OG,G,c1,e,c2,e',k2,m2];rw [OP (by decide),OP (by decide),OP (by decide),OP (by decide),OP (by decide),O' trivial,OP,O' ⟨by omega,by omega,trivial⟩]
  ·simp only [T.text,Ov,Oy,ON];omega
  ·rintro(hh | hh | hh)
   ·omega
   ·omega
   ·exact hh.2 rfl
def C1 {l:Tx}:∀(n i:Nat),0<=endI l n i->∃t:P,t.wf=true/\l.drop i=t.text++l.drop (endI l n i).toNat:=by
 intro n
 induction n with
 | zero=>intro i h;simp [endI]at h
 | succ n ih=>
  intro i h;have μ:∀i:Nat,0<=endI l n i->∃t:P,t.wf=true/\l.drop i=t.text++l.drop (endI l n i).toNat:=ih;have c1:(i:Int)+1=((i+1:Nat):Int):=by omega
  have c2:(i:Int)+2=((i+2:Nat):Int):=by omega
  have c3:(i:Int)+3=((i+3:Nat):Int):=by omega
  have c4:(i:Int)+4=((i+4:Nat):Int):=by omega
  have c5:(i:Int)+5=((i+5:Nat):Int):=by omega
  unfold endI at h|-;simp only [c1,c2,c3,c4,c5,OG]at h|-;split at h
  ·omega
  rename_i hi;have hl:i< l.length:=by omega
  rw [OP hi];rw [bI hl];split at h
  ·rename_i G;rw [O' G];exact⟨.nil,rfl,by rw [G];rfl⟩
  rename_i β;rw [OP β];split at h
  ·rename_i G;obtain⟨t,hw,J⟩:=ih _ h;rw [O' G];exact⟨.rep t,hw,by rw [G,J];rfl⟩
  rename_i γ;rw [OP γ];split at h
  ·rename_i G;rw [O' G];split at h
   ·rename_i H;obtain⟨t,hw,J⟩:=ih _ h;rw [O' H];have Z:i+1< l.length:=by omega
    exact⟨.tau t,hw,by rw [G,bI Z,H.2,J];rfl⟩
   ·omega
  rename_i δ;rw [OP δ];split at h
  ·rename_i G;rw [O' G];split at h
   ·rename_i H;obtain⟨t,hw,J⟩:=ih _ h;rw [O' H];have Z:i+1< l.length:=by omega
    have h2:i+1+1< l.length:=by omega
    exact⟨.res (bt l (i+1)) t,by simp [T.wf,hw,H.2.1],by rw [G,bI Z,bI h2,H.2.2,J];rfl⟩
   ·omega
  rename_i ε;rw [OP ε];split at h
  ·rename_i G;rw [O' G];split at h
   ·rename_i H;obtain⟨t,hw,J⟩:=ih _ h;rw [O' H];have Z:i+1< l.length:=by omega
    have h2:i+1+1< l.length:=by omega
    have h3:i+1+1+1< l.length:=by omega
    have h4:i+1+1+1+1< l.length:=by omega
    exact⟨.mat (bt l (i+1)) (bt l (i+3)) t,by simp [T.wf,hw,H.2.1,H.2.2.2.1],by
     rw [G,bI Z,bI h2,bI h3,bI h4,H.2.2.1,H.2.2.2.2,J];rfl⟩
   ·omega
  rename_i ζ;rw [OP ζ];split at h
  ·rename_i G;rw [O' G];split at h
   ·omega
   ·rename_i hm;rw [OP hm];have η:0<=endI l n ((i+1:Nat):Int):=by omega
    obtain⟨t,hw,J⟩:=ih _ η;generalize hM:(endI l n ((i+1:Nat):Int)).toNat=m at*;have θ:endI l n ((i+1:Nat):Int)=(m:Int):=by omega
    simp only [θ]at h hm|-;have cm:(m:Int)+1=((m+1:Nat):Int):=by omega
    simp only [cm]at h|-;split at h
    ·rename_i he;rw [O' he];obtain⟨u,α,hu⟩:=ih _ he.1;have Z:m< l.length:=by omega
     generalize hE:(endI l n ((m+1:Nat):Int)).toNat=e at*;have ι:endI l n ((m+1:Nat):Int)=(e:Int):=by omega
     simp only [ι]at he|-;have h2:e< l.length:=by omega
     have ce:(((e:Int)+1).toNat)=e+1:=by omega
     rw [ce];have hb:bt l m=43\/bt l m=38:=by
      by_cases hx:bt l m=43
      ·exact .inl hx
      ·by_cases hy:bt l m=38
       ·exact .inr hy
       ·exact absurd (.inr (.inr ⟨hx,hy⟩)) hm
     rcases hb with hb | hb
     ·exact⟨.sum t u,by simp [T.wf,hw,α],by rw [G,J,bI Z,hb,hu,bI h2,he.2.2];simp [T.text]⟩
     ·exact⟨.par t u,by simp [T.wf,hw,α],by rw [G,J,bI Z,hb,hu,bI h2,he.2.2];simp [T.text]⟩
    ·omega
  rename_i κ;rw [OP κ];split at h
  ·rename_i G;rw [O' G];split at h
   ·rename_i H;obtain⟨t,hw,J⟩:=ih _ h;rw [O' H];have Z:i+1< l.length:=by omega
    have h2:i+1+1< l.length:=by omega
    have h3:i+1+1+1< l.length:=by omega
    rcases H.2.1 with hb | hb
    ·exact⟨.snd (bt l i) (bt l (i+2)) t,by simp [T.wf,hw,H.2.2.1,G],by rw [bI Z,bI h2,bI h3,hb,H.2.2.2,J];rfl⟩
    ·exact⟨.rcv (bt l i) (bt l (i+2)) t,by simp [T.wf,hw,H.2.2.1,G],by rw [bI Z,bI h2,bI h3,hb,H.2.2.2,J];rfl⟩
   ·omega
  ·omega
def mg:∀{t u:P} {r r':Tx},t.wf=true->u.wf=true->t.text++r=u.text++r'->t=u/\r=r':=by
 intro t
 induction t<;>intro u r r' H hu h<;>cases u<;>
  simp only [T.text,T.wf,PC,Pe,Pv,Po,OA]at h H hu
 case nil.nil=>exact⟨rfl,h.2⟩
 case snd.snd G _ _ _=>
  obtain⟨rfl,_,rfl,_,h⟩:=h;obtain⟨rfl,k⟩:=G H.2 hu.2 h;exact⟨rfl,k⟩
 case rcv.rcv G _ _ _=>
  obtain⟨rfl,_,rfl,_,h⟩:=h;obtain⟨rfl,k⟩:=G H.2 hu.2 h;exact⟨rfl,k⟩
 case mat.mat G _ _ _=>
  obtain⟨_,rfl,_,rfl,_,h⟩:=h;obtain⟨rfl,k⟩:=G H.2 hu.2 h;exact⟨rfl,k⟩
 case res.res G _ _=>
  obtain⟨_,rfl,_,h⟩:=h;obtain⟨rfl,k⟩:=G H.2 hu.2 h;exact⟨rfl,k⟩
 case tau.tau G _=>
  obtain⟨rfl,k⟩:=G H hu h.2.2;exact⟨rfl,k⟩
 case rep.rep G _=>
  obtain⟨rfl,k⟩:=G H hu h.2;exact⟨rfl,k⟩
 case sum.sum G J _ _=>
  obtain⟨rfl,k⟩:=G H.1 hu.1 h.2;obtain⟨rfl,m⟩:=J H.2 hu.2 (Pw k).2;exact⟨rfl,(Pw m).2⟩
 case par.par G J _ _=>
  obtain⟨rfl,k⟩:=G H.1 hu.1 h.2;obtain⟨rfl,m⟩:=J H.2 hu.2 (Pw k).2;exact⟨rfl,(Pw m).2⟩
 case sum.par G J _ _=>
  obtain⟨rfl,k⟩:=G H.1 hu.1 h.2;exact absurd (Pw k).1 (by decide)
 case par.sum G J _ _=>
  obtain⟨rfl,k⟩:=G H.1 hu.1 h.2;exact absurd (Pw k).1 (by decide)
 all_goals
  exfalso
  first
   | exact absurd h.1 (by decide)
   | exact absurd h.2.1 (by decide)
   | (have Z:=wh hu.1.1;rw [<-h.1]at Z;simp at Z;done)
   | (have Z:=wh H.1.1;rw [h.1]at Z;simp at Z;done)
def eV {t u:P}(G:t.wf=true)(hu:u.wf=true)(h:t.text=u.text):t=u:=
 (mg G hu (r:=[]) (r':=[]) (by rw [h])).1
def Ex (w w':World):Prop:=Below w.heap.size w w'
def Ex.refl (w:World):Ex w w:=R8 _ _
def Ex.trans {a b c:World}(h:Ex a b)(k:Ex b c):Ex a c:=Below.trans h (Below.mono k h.size)
def Ex.drew (w:World):Ex w w.drew:=Below.drew (R8 _ _)
def Ex.alloc (w:World)(o:Obj):Ex w (w.alloc o):=Below.alloc (R8 _ _) (OB _) o
def Ex.cell {w w':World}(h:Ex w w'){a:Addr}(ha:a.block< w.heap.size):w'.cell? a=w.cell? a:=Below.cell h ha
def G6 {c:UInt8}{w:World}{R:Bool->Sb}(h:R (nm c) w):Sc 202 #[.int .u8 c.toNat] w (aw [.b] R):=by
 refine uu c w R ?_;dsimp only [go_sem];dsimp only [go_sem,Nat.reduceAdd];have e:nm c=true\/nm c=false:=by cases nm c<;>simp
 unfold nm at*
 grind
def py (p:Tx)(hp:p.length<=4611686018427387904):∀(n:Nat) (i:Int),0<=i->(p.length:Int) - i< n->i<=p.length+1->∀{w:World} {R:Int->Sb},R (endI p n i) w->
  Sc 159 #[.string (ak p),.int .i64 i] w (aw [.i] R):=by
 intro n
 induction n with
 | zero=>
  intro i H J Z w R h;refine nP p i w R ?_;dsimp only [go_sem];exact⟨λ _=>h,λhh=>by simp at hh;omega⟩
 | succ n ih=>
  intro i H J Z w R h;refine nP p i w R ?_;dsimp only [go_sem];dsimp only [go_sem,Nat.reduceAdd];have α:=ES p n (i+1) (by omega);have G:=ES p n (endI p n (i+1)+1);unfold endI at h;unfold bG
  repeat' first
   | refine G6 ?_
   | refine ih _ ?_ ?_ ?_ ?_
   | refine And.intro ?_ ?_
   | intro _
  all_goals grind
structure Ok (t:P):Prop where
 wf:t.wf=true
 len:t.text.length<=1099511627776
def Strs (w:World)(v:Value)(l:List Tx):Prop:=
 (v= .slice none 0 0/\l=[])\/∃b off cap,v= .slice (some ⟨b,off,none⟩) l.length cap/\b< w.heap.size/\∀i x,l[i]?=some x->w.cell? ⟨b,off+i,none⟩=some (.string (ak x))
def Strs.ex {w w':World}{v:Value}{l:List Tx}(h:Strs w v l)(k:Ex w w'):Strs w' v l:=by
 rcases h with h | ⟨b,off,cap,H,G,J⟩
 ·exact .inl h
 ·exact .inr ⟨b,off,cap,H,O1 G k.size,λi x Z=>by rw [k.cell G];exact J i x Z⟩
def Strs.slice {w:World}{v:Value}{l:List Tx}(h:Strs w v l):∃a cap,v= .slice a l.length cap:=by
 rcases h with⟨h,rfl⟩ | ⟨b,off,cap,G,_⟩
 ·exact⟨_,_,h⟩
 ·exact⟨_,_,G⟩
def Strs.at {w:World}{v:Value}{l:List Tx}(h:Strs w v l){i:Nat}(hi:i< l.length):
  ∃b off cap,v= .slice (some ⟨b,off,none⟩) l.length cap/\b< w.heap.size/\w.cell? ⟨b,off+i,none⟩=some (.string (ak l[i])):=by
 rcases h with⟨h,rfl⟩ | ⟨b,off,cap,G,H,J⟩
 ·simp at hi
 ·exact⟨b,off,cap,G,H,J i _ (Ox hi)⟩
def df {p:Prop}{_:Decidable p}{A B:Prop}(h:p)(G:A):(decide p=true->A)/\(decide p=false->B):=⟨λ _=>G,λH=>absurd h (OX H)⟩
def aW {p:Prop}{_:Decidable p}{A B:Prop}(h:¬p)(hB:B):(decide p=true->A)/\(decide p=false->B):=⟨λG=>absurd (OW G) h,λ _=>hB⟩
def ee {p:Prop}{_:Decidable p}{A B:Prop}(h:p)(G:A):(decide p=false->B)/\(decide p=true->A):=⟨λH=>absurd h (OX H),λ _=>G⟩
def cH {p:Prop}{_:Decidable p}{A B:Prop}(h:¬p)(hB:B):(decide p=false->B)/\(decide p=true->A):=⟨λ _=>hB,λG=>absurd (OW G) h⟩
def aa {w:World}{c:Array Value}{el:Nat}{i:Nat}{v:Value}(h:c[i]?=some v):(w.alloc (.cells c el)).cell? ⟨w.heap.size,i,none⟩=some v:=by
 unfold World.cell? World.alloc;simp [h]
def size_alloc (w:World)(o:Obj):(w.alloc o).heap.size=w.heap.size+1:=by unfold World.alloc;simp
def pL (t:P)(hw:t.wf=true)(l:Tx)(i:Nat)(r:Tx)(h:l.drop i=t.text++r)(n:Nat)(H:(l.length:Int) - i< n):endI l n i=((i+t.text.length:Nat):Int):=by
 refine xZ t n i r hw ?_ h;have J:=bz t;have G:=PA List.length h;simp only [P7,Oy]at G;omega
def HY (l r:Tx)(i:Nat)(c:UInt8)(h:i=l.length):bt (l++c::r) i=c:=by
 subst h;simp [bt]
def aT {t:P}(ok:Ok t){w:World}{R:UInt8->Sb}(h:R t.kind w):Sc 144 #[.string (ak t.text)] w (aw [.c] R):=by
 refine uL _ w R ?_;dsimp only [go_sem];dsimp only [go_sem,Nat.reduceAdd];have hw:=ok.wf;have hl:=ok.len;cases t with
 | nil=>simpa [T.text,bt,T.kind]using h
 | rep p=>simpa [T.text,bt,T.kind]using h
 | tau p=>simp [T.text,bt];exact⟨by omega,h⟩
 | res x p=>simp [T.text,bt];exact⟨by omega,h⟩
 | mat a b p=>simp [T.text,bt];exact⟨by omega,h⟩
 | snd a b p=>
  simp only [T.wf,OA]at hw;obtain⟨n1,G,H,J,n5,Z⟩:=wh hw.1.1;simp [T.text,bt,n1,G,H,J,n5,Z];exact⟨by omega,by omega,h⟩
 | rcv a b p=>
  simp only [T.wf,OA]at hw;obtain⟨n1,G,H,J,n5,Z⟩:=wh hw.1.1;simp [T.text,bt,n1,G,H,J,n5,Z];exact⟨by omega,by omega,h⟩
 | sum p q=>
  simp only [T.wf,OA]at hw;have e:=pL p hw.1 (T.sum p q).text 1 (43::(q.text++[41])) rfl ((T.sum p q).text.length+1) (by omega);have e2:bt (T.sum p q).text (1+p.text.length)=43:=HY (40::p.text) _ _ 43 (by simp;omega);have e3:1+p.text.length< (T.sum p q).text.length:=by simp only [T.text,Ov,Oy];omega
  have e0:bt (T.sum p q).text 0=40:=rfl;simp only [Int.toNat_zero,e0];refine⟨by omega,?_⟩
  repeat' first | refine aW (by decide) ?_ | refine df (by decide) ?_ | refine cH (by decide) ?_ | refine ee (by decide) ?_
  refine py _ (by omega) _ 1 (by omega) (by omega:((T.sum p q).text.length:Int) - 1< ((T.sum p q).text.length+1:Nat)) (by omega) ?_;have e':endI (T.sum p q).text ((T.sum p q).text.length+1) 1=((1+p.text.length:Nat):Int):=e;rw [e'];refine⟨by omega,?_⟩;rw [OG,e2];exact h
 | par p q=>
  simp only [T.wf,OA]at hw;have e:=pL p hw.1 (T.par p q).text 1 (38::(q.text++[41])) rfl ((T.par p q).text.length+1) (by omega);have e2:bt (T.par p q).text (1+p.text.length)=38:=HY (40::p.text) _ _ 38 (by simp;omega);have e3:1+p.text.length< (T.par p q).text.length:=by simp only [T.text,Ov,Oy];omega
  have e0:bt (T.par p q).text 0=40:=rfl;simp only [Int.toNat_zero,e0];refine⟨by omega,?_⟩
  repeat' first | refine aW (by decide) ?_ | refine df (by decide) ?_ | refine cH (by decide) ?_ | refine ee (by decide) ?_
  refine py _ (by omega) _ 1 (by omega) (by omega:((T.par p q).text.length:Int) - 1< ((T.par p q).text.length+1:Nat)) (by omega) ?_;have e':endI (T.par p q).text ((T.par p q).text.length+1) 1=((1+p.text.length:Nat):Int):=e;rw [e'];refine⟨by omega,?_⟩;rw [OG,e2];exact h
def T.hd:P->Nat
 | .nil=>4 | .snd .. =>4 | .rcv .. =>4 | .tau _=>2 | .sum .. =>1 | .par .. =>1 | .res .. =>3 | .mat .. =>5 | .rep _=>1
def cZ {t:P}(ok:Ok t){w:World}{R:Int->Sb}(h:R (t.hd:Int) w):Sc 180 #[.string (ak t.text)] w (aw [.i] R):=by
 refine vH _ w R ?_;dsimp only [go_sem];dsimp only [go_sem,Nat.reduceAdd];refine aT ok ?_;cases t<;>simpa [T.kind,T.hd]using h
def Ok.parts {t:P}(ok:Ok t):∀p∈t.parts,Ok p:=by
 have hw:=ok.wf;have G:=ok.len;cases t<;>simp only [T.parts,T.wf,T.text,OA,OY,Rk,RU,Ov,Oy]at hw G|-
 case nil=>intro p h;exact h.elim
 all_goals rintro _ (rfl | rfl)<;>(constructor<;>first | omega | simp_all)
def qK {t:P}(ok:Ok t){w:World}{R:Value->Sb}(h:∀v w',Ex w w'->Strs w' v (t.parts.map T.text)->(∀g,v.ownBlock=some g->w.heap.size<=g)->R v w'):
  Sc 141 #[.string (ak t.text)] w (aw [.v] R):=by
 refine tn _ w R ?_;dsimp only [go_sem];dsimp only [go_sem,Nat.reduceAdd];refine aT ok ?_;have hl:=ok.len;have hw:=ok.wf;have two:∀(w1:World) (x y:Tx) (H:World),Ex w w1->H=w1.alloc (.cells #[.string (ak x),.string (ak y)] 9)->Strs H (.slice (some ⟨w1.heap.size,0,none⟩) 2 2) [x,y]:=by
  rintro w1 x y H hx rfl
  refine .inr ⟨_,0,2,rfl,by rw [size_alloc];omega,λi z hz=>?_⟩;rw [O6];refine aa ?_
  match i,hz with
  | 0,hz=>simp at hz|-;exact hz▸rfl
  | 1,hz=>simp at hz|-;exact hz▸rfl
  | i+2,hz=>simp at hz
 have one:∀(x:Tx) (H:World),H=w.alloc (.cells #[.string (ak x)] 9)->Strs H (.slice (some ⟨w.heap.size,0,none⟩) 1 1) [x]:=by
  rintro x H rfl
  refine .inr ⟨_,0,1,rfl,by rw [size_alloc];omega,λi z hz=>?_⟩;rw [O6];refine aa ?_
  match i,hz with
  | 0,hz=>simp at hz|-;exact hz▸rfl
  | i+1,hz=>simp at hz
 cases t with
 | nil=>simpa [T.kind]using h _ _ (Ex.refl w) (.inl ⟨rfl,rfl⟩) (λg J=>by cases J)
 | sum p q=>
  simp only [T.wf,OA]at hw;simp only [T.kind]
  repeat' first | refine aW (by decide) ?_ | refine df (by decide) ?_ | refine cH (by decide) ?_ | refine ee (by decide) ?_
  have e:=pL p hw.1 (T.sum p q).text 1 (43::(q.text++[41])) rfl ((T.sum p q).text.length+1) (by omega);refine py _ (by omega) _ 1 (by omega) (by omega:((T.sum p q).text.length:Int) - 1< ((T.sum p q).text.length+1:Nat)) (by omega) ?_;have e':endI (T.sum p q).text ((T.sum p q).text.length+1) 1=((1+p.text.length:Nat):Int):=e;have e3:(T.sum p q).text.length=p.text.length+q.text.length+3:=by simp only [T.text,Ov,Oy,ON];omega
  rw [e'];refine⟨λ _=>True,λw1 α=>⟨trivial,by omega,by omega,by omega,by omega,λb H hb G=>⟨trivial,?_⟩⟩⟩;subst hb;have x1:List.drop 1 (List.take (1+p.text.length) (T.sum p q).text)=p.text:=by
   show List.drop 1 (List.take (1+p.text.length) (40::(p.text++(43::(q.text++[41])))))=_;rw [Nat.add_comm,RN,List.drop_one,List.tail_cons,List.take_left]
  have x2:List.drop (((1+p.text.length:Nat):Int)+1).toNat (List.take (((T.sum p q).text.length:Int) - 1).toNat (T.sum p q).text)=q.text:=by
   have a1:(((1+p.text.length:Nat):Int)+1).toNat=(40::(p.text++[43])).length:=by simp;omega
   have a2:(((T.sum p q).text.length:Int) - 1).toNat=((40::(p.text++[43]))++q.text).length:=by simp;omega
   have a3:(T.sum p q).text=((40::(p.text++[43]))++q.text)++[41]:=by simp [T.text]
   rw [a1,a2,a3,List.take_left,RD]
  rw [OG]at G;have Z:H=w1.alloc (.cells #[.string (ak p.text),.string (ak q.text)] 9):=by
   rw [G];congr 4
   ·exact PA (λz=>Value.string (ak z)) x1
   ·exact PA (λz=>[Value.string (ak z)]) x2
  have hx:Ex w w1:=α▸Ex.drew w;exact h _ _ (hx.trans (Z▸Ex.alloc w1 _)) (two w1 _ _ H hx Z) (λg J=>by cases J;exact hx.size)
 | par p q=>
  simp only [T.wf,OA]at hw;simp only [T.kind]
  repeat' first | refine aW (by decide) ?_ | refine df (by decide) ?_ | refine cH (by decide) ?_ | refine ee (by decide) ?_
  have e:=pL p hw.1 (T.par p q).text 1 (38::(q.text++[41])) rfl ((T.par p q).text.length+1) (by omega);refine py _ (by omega) _ 1 (by omega) (by omega:((T.par p q).text.length:Int) - 1< ((T.par p q).text.length+1:Nat)) (by omega) ?_;have e':endI (T.par p q).text ((T.par p q).text.length+1) 1=((1+p.text.length:Nat):Int):=e;have e3:(T.par p q).text.length=p.text.length+q.text.length+3:=by simp only [T.text,Ov,Oy,ON];omega
  rw [e'];refine⟨λ _=>True,λw1 α=>⟨trivial,by omega,by omega,by omega,by omega,λb H hb G=>⟨trivial,?_⟩⟩⟩;subst hb;have x1:List.drop 1 (List.take (1+p.text.length) (T.par p q).text)=p.text:=by
   show List.drop 1 (List.take (1+p.text.length) (40::(p.text++(38::(q.text++[41])))))=_;rw [Nat.add_comm,RN,List.drop_one,List.tail_cons,List.take_left]
  have x2:List.drop (((1+p.text.length:Nat):Int)+1).toNat (List.take (((T.par p q).text.length:Int) - 1).toNat (T.par p q).text)=q.text:=by
   have a1:(((1+p.text.length:Nat):Int)+1).toNat=(40::(p.text++[38])).length:=by simp;omega
   have a2:(((T.par p q).text.length:Int) - 1).toNat=((40::(p.text++[38]))++q.text).length:=by simp;omega
   have a3:(T.par p q).text=((40::(p.text++[38]))++q.text)++[41]:=by simp [T.text]
   rw [a1,a2,a3,List.take_left,RD]
  rw [OG]at G;have Z:H=w1.alloc (.cells #[.string (ak p.text),.string (ak q.text)] 9):=by
   rw [G];congr 4
   ·exact PA (λz=>Value.string (ak z)) x1
   ·exact PA (λz=>[Value.string (ak z)]) x2
  have hx:Ex w w1:=α▸Ex.drew w;exact h _ _ (hx.trans (Z▸Ex.alloc w1 _)) (two w1 _ _ H hx Z) (λg J=>by cases J;exact hx.size)
 | snd a b p=>
  simp only [T.kind]
  repeat' first | refine aW (by decide) ?_ | refine df (by decide) ?_ | refine cH (by decide) ?_ | refine ee (by decide) ?_
  refine cZ ok ?_;refine⟨by simp only [T.hd,T.text,Ov];omega,λb1 H hb G=>?_⟩;subst hb;exact h _ _ (G▸Ex.alloc w _) (one p.text H G) (λg J=>by cases J;exact OB _)
 | rcv a b p=>
  simp only [T.kind]
  repeat' first | refine aW (by decide) ?_ | refine df (by decide) ?_ | refine cH (by decide) ?_ | refine ee (by decide) ?_
  refine cZ ok ?_;refine⟨by simp only [T.hd,T.text,Ov];omega,λb1 H hb G=>?_⟩;subst hb;exact h _ _ (G▸Ex.alloc w _) (one p.text H G) (λg J=>by cases J;exact OB _)
 | tau p=>
  simp only [T.kind]
  repeat' first | refine aW (by decide) ?_ | refine df (by decide) ?_ | refine cH (by decide) ?_ | refine ee (by decide) ?_
  refine cZ ok ?_;refine⟨by simp only [T.hd,T.text,Ov];omega,λb1 H hb G=>?_⟩;subst hb;exact h _ _ (G▸Ex.alloc w _) (one p.text H G) (λg J=>by cases J;exact OB _)
 | rep p=>
  simp only [T.kind]
  repeat' first | refine aW (by decide) ?_ | refine df (by decide) ?_ | refine cH (by decide) ?_ | refine ee (by decide) ?_
  refine cZ ok ?_;refine⟨by simp only [T.hd,T.text,Ov];omega,λb1 H hb G=>?_⟩;subst hb;exact h _ _ (G▸Ex.alloc w _) (one p.text H G) (λg J=>by cases J;exact OB _)
 | res x p=>
  simp only [T.kind]
  repeat' first | refine aW (by decide) ?_ | refine df (by decide) ?_ | refine cH (by decide) ?_ | refine ee (by decide) ?_
  refine cZ ok ?_;refine⟨by simp only [T.hd,T.text,Ov];omega,λb1 H hb G=>?_⟩;subst hb;exact h _ _ (G▸Ex.alloc w _) (one p.text H G) (λg J=>by cases J;exact OB _)
 | mat a b p=>
  simp only [T.kind]
  repeat' first | refine aW (by decide) ?_ | refine df (by decide) ?_ | refine cH (by decide) ?_ | refine ee (by decide) ?_
  refine cZ ok ?_;refine⟨by simp only [T.hd,T.text,Ov];omega,λb1 H hb G=>?_⟩;subst hb;exact h _ _ (G▸Ex.alloc w _) (one p.text H G) (λg J=>by cases J;exact OB _)
def de {t:P}(ok:Ok t){w:World}{R:Value->Sb}(h:∀v w',Ex w w'->Strs w' v (t.parts.map T.text)->R v w'):
  Sc 141 #[.string (ak t.text)] w (aw [.v] R):=qK ok λv w' G H _=>h v w' G H
def lR (s:Tx):Prop:=s.Pairwise (· < ·)
def lR.bound:∀{s:Tx},lR s->s.length<=256
 | [],_=>by simp
 | a::l,h=>by
  have key:∀(l:Tx) (a:UInt8),lR (a::l)->l.length+a.toNat<=255:=by
   intro l
   induction l with
   | nil=>intro a _;have :=a.toNat_lt;simp;omega
   | cons b l H=>
    intro a h;have G:=Ro.1 h;have J:=H b G.2;have Z:=Pu.1 (G.1 b (Pb ..));simp only [Ov];omega
  have :=key l a h;simp only [Ov];omega
def rB {s:Tx}{i:Nat}(h:i< s.length):bt s i∈s:=by
 simp only [bt,List.getD_eq_getElem?_getD,Ox h,Option.getD_some];exact Oz h
def DD {s:Tx}{c:UInt8}(h:c∈s):∃i,i< s.length/\bt s i=c:=by
 obtain⟨i,hi,e⟩:=PK.1 h;exact⟨i,hi,by simp [bt,hi,e]⟩
def dZ {s:Tx}{c:UInt8}(hs:s.length<=1099511627776){w:World}{R:Bool->Sb}(h:R (decide (c∈s)) w):Sc 92 #[.string (ak s),.int .u8 c.toNat] w (aw [.b] R):=by
 refine yB s c w R ?_;dsimp only [go_sem];dsimp only [go_sem,Nat.reduceAdd];refine⟨λi w'=>w=w'/\0<=i/\i<=s.length/\∀j:Nat,j< i->bt s j≠c,λi _=>((s.length:Int) - i).toNat,⟨rfl,by omega,by omega,λj J=>by omega⟩,λi w1 hI=>?_⟩;obtain⟨rfl,h0,h1,Z⟩:=hI;refine⟨λG=>⟨by simp at G;omega,λhe=>?_,λhe=>?_⟩,λG=>?_⟩
 ·simp only [OK]at G he;rw [P2 (he▸rB (by omega))]at h;exact h
 ·simp only [OK,OF]at G he;refine⟨by omega,⟨rfl,by omega,by omega,λj J=>?_⟩,by dsimp only;omega⟩;rcases Qi j i.toNat with H | H
  ·exact Z j (by omega)
  ·have:j=i.toNat:=by omega
   rw [this];exact he
 ·simp only [OF]at G;have hn:¬c∈s:=λhm=>by
   obtain⟨j,J,e⟩:=DD hm;exact Z j (by omega) e
  rw [P9 hn]at h;exact h
def xz {s:Tx}{i:Int}(H:0<=i)(h:i< s.length):List.drop i.toNat (List.take (i+1).toNat s)=[bt s i.toNat]:=by
 obtain⟨n,rfl⟩:∃n:Nat,i=n:=⟨i.toNat,by omega⟩
 have e:((n:Int)+1).toNat=n+1:=by omega
 have G:n< s.length:=by omega
 rw [e,OG,List.drop_take,Nat.add_sub_cancel_left,bI G];rfl
def gZ {s:Tx}{i:Int}(H:0<=i)(h:i< s.length):s.take (i+1).toNat=s.take i.toNat++[bt s i.toNat]:=by
 obtain⟨n,rfl⟩:∃n:Nat,i=n:=⟨i.toNat,by omega⟩
 have e:((n:Int)+1).toNat=n+1:=by omega
 have G:n< s.length:=by omega
 rw [e,OG,List.take_add_one]
 congr 1
 simp [bt,Ox G]
def uf {s:Tx}{c:UInt8}(Z:s.length<=1099511627776){w:World}{R:aD->Sb}(h:R (s.filter λd=>decide (d≠c)) w):Sc 140 #[.string (ak s),.int .u8 c.toNat] w (aw [.s] R):=by
 refine uh s c w R ?_;dsimp only [go_sem];dsimp only [go_sem,Nat.reduceAdd];refine⟨λout i w'=>w=w'/\0<=i/\i<=s.length/\out=(s.take i.toNat).filter λd=>decide (d≠c),λ _ i _=>((s.length:Int) - i).toNat,⟨rfl,by omega,by omega,rfl⟩,λout i w1 J=>?_⟩;obtain⟨rfl,H,h1,rfl⟩:=J;refine⟨λG=>?_,λG=>?_⟩
 ·simp only [OK]at G;have hl:((s.take i.toNat).filter λd=>decide (d≠c)).length<=s.length:=Pq (P' ..) (by rw [Pd];omega);refine⟨by omega,λhe=>?_,λhe=>?_⟩
  ·simp only [QA,OF]at he;rw [xz H G];refine⟨by omega,by omega,by simp only [Ov,ON];omega,by omega,⟨rfl,by omega,by omega,?_⟩,by dsimp only;omega⟩;rw [gZ H G,List.filter_append,List.filter_cons,if_pos (by simpa using he),List.filter_nil]
  ·simp only [Bool.not_eq_false',OK]at he;refine⟨by omega,⟨rfl,by omega,by omega,?_⟩,by dsimp only;omega⟩;rw [gZ H G,List.filter_append,List.filter_cons,if_neg (by simpa using he),List.filter_nil,List.append_nil]
 ·simp only [OF]at G;have:i.toNat=s.length:=by omega
  rw [this,O4];exact h
def lx {w1:World}(c:UInt8){H:World}{b:Nat}(hb:b=w1.heap.size)(h:H=w1.alloc (.cells #[.int .u8 c.toNat] 5)):
  ∀(j:Nat) (x:UInt8),[c][j]?=some x->H.cell? ⟨b,0+j,none⟩=some (.int .u8 x.toNat):=by
 intro j x G;subst hb h
 match j,G with
 | 0,G=>simp at G;subst G;exact aa rfl
 | j+1,G=>simp at G
end Go.Proofs.YthekamjhgabkjaaGreat
