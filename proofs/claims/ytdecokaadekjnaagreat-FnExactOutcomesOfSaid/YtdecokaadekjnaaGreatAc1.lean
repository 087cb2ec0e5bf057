/- Part 1 of a proof of what the last text states; no condition. -/
import Derived.WalkKit
import Derived.KernelRfl
import Derived.MapKept
import Derived.Laws.IdiomCopy
import Derived.Lib.ConvBytes
import Derived.Laws.BytesString
import Derived.Laws.MakeOwn
import Derived.OrdersHeld
import Derived.Test.YtdecokaadekjnaaGreatProg
import Derived.Below
import Derived.Deep.Onto
import Derived.Sort.Walk0
import Derived.Shelf.Small.Strs
import Derived.Sort.OwnSorted
import Derived.Shelf.Sort.Plain
import Derived.Shelf.Slices.In.SortNone
import Derived.RangeFuncBox
import Derived.RangeFuncLeaves
import Derived.Shelf.Abstract
import Derived.OwnWalkIn
import Derived.TacticsInMore
import Derived.LoopNIn
import Derived.LoopIn
import Derived.Maps.AppendAt
import Derived.Test.YtdecokaadekjnaaGreatRows
import Derived.ProofKit
import Derived.OpenShut
import Derived.ShutString
import Derived.ChangeOld
set_option maxRecDepth 100000
set_option maxHeartbeats 4000000
namespace Go.Proofs.YtdecokaadekjnaaGreat
open Go Go.RowKit
theorem Mm:type_of% @List.length_cons:=@List.length_cons
theorem Mn:type_of% @World.cell?_of_block:=@World.cell?_of_block
theorem Mo:type_of% @List.getElem?_eq_getElem:=@List.getElem?_eq_getElem
theorem Mp:type_of% @Bool.and_eq_true:=@Bool.and_eq_true
theorem Mq:type_of% @List.take_succ_eq_append_getElem:=@List.take_succ_eq_append_getElem
theorem Mr:type_of% @World.cell?_setCell_other:=@World.cell?_setCell_other
theorem Ms:type_of% @Result.andThen_ok:=@Result.andThen_ok
theorem Mt:type_of% @List.length_append:=@List.length_append
theorem Mu:type_of% @Nat.le_refl:=@Nat.le_refl
theorem Mv:type_of% @Int.toNat_natCast:=@Int.toNat_natCast
theorem Mw:type_of% @decide_eq_false_iff_not:=@decide_eq_false_iff_not
theorem Mx:type_of% @List.getElem_mem:=@List.getElem_mem
theorem My:type_of% @List.mem_append:=@List.mem_append
theorem Mz:type_of% @decide_eq_true_eq:=@decide_eq_true_eq
theorem MA:type_of% @List.mem_singleton:=@List.mem_singleton
theorem MB:type_of% @List.length_nil:=@List.length_nil
theorem MC:type_of% @List.forall_mem_cons:=@List.forall_mem_cons
theorem MD:type_of% @List.mem_cons_of_mem:=@List.mem_cons_of_mem
theorem ME:type_of% @Sem.run_bind:=@Sem.run_bind
theorem MF:type_of% @Sem.run_pure:=@Sem.run_pure
theorem MG:type_of% @World.frozen?_setCell:=@World.frozen?_setCell
theorem MH:type_of% @List.mem_cons:=@List.mem_cons
theorem MI:type_of% @World.cell?_setCell_same:=@World.cell?_setCell_same
theorem MJ:type_of% @if_neg:=@if_neg
theorem ML:type_of% @UInt8.le_iff_toNat_le:=@UInt8.le_iff_toNat_le
theorem MM:type_of% @List.length_map:=@List.length_map
theorem MN:type_of% @of_decide_eq_true:=@of_decide_eq_true
theorem MO:type_of% @of_decide_eq_false:=@of_decide_eq_false
theorem MP:type_of% @Nat.lt_of_lt_of_le:=@Nat.lt_of_lt_of_le
theorem MQ:type_of% @UInt8.toNat_inj:=@UInt8.toNat_inj
theorem MR:type_of% @List.take_length:=@List.take_length
theorem MS:type_of% @List.eq_nil_of_length_eq_zero:=@List.eq_nil_of_length_eq_zero
theorem MT:type_of% @List.mem_append_right:=@List.mem_append_right
theorem MU:type_of% @World.frozen?_of_block:=@World.frozen?_of_block
theorem MV:type_of% @List.map_cons:=@List.map_cons
theorem MW:type_of% @Nat.mul_one:=@Nat.mul_one
theorem MX:type_of% @Nat.zero_add:=@Nat.zero_add
theorem MY:type_of% @List.append_nil:=@List.append_nil
theorem MZ:type_of% @if_pos:=@if_pos
theorem M0:type_of% @List.mem_append_left:=@List.mem_append_left
theorem M5:type_of% @List.length_take:=@List.length_take
theorem M6:type_of% @List.nodup_append:=@List.nodup_append
theorem M8:type_of% @List.append_assoc:=@List.append_assoc
theorem M9:type_of% @World.size_setCell:=@World.size_setCell
theorem Na:type_of% @Array.getElem?_eq_some_iff:=@Array.getElem?_eq_some_iff
theorem Nb:type_of% @List.mem_map:=@List.mem_map
theorem Nc:type_of% @List.mem_cons_self:=@List.mem_cons_self
theorem Nf:type_of% @UInt8.lt_iff_toNat_lt:=@UInt8.lt_iff_toNat_lt
theorem Ng:type_of% @Option.some.inj:=@Option.some.inj
theorem Nh:type_of% @List.count_append:=@List.count_append
theorem Ni:type_of% @List.mem_flatMap:=@List.mem_flatMap
theorem Nj:type_of% @List.cons.injEq:=@List.cons.injEq
theorem Nk:type_of% @List.nil_append:=@List.nil_append
theorem Nl:type_of% @Nat.zero_le:=@Nat.zero_le
theorem Nn:type_of% @List.drop_eq_getElem_cons:=@List.drop_eq_getElem_cons
theorem No:type_of% @List.getElem?_eq_some_iff:=@List.getElem?_eq_some_iff
theorem Np:type_of% @List.mem_iff_getElem:=@List.mem_iff_getElem
theorem Nq:type_of% @List.map_append:=@List.map_append
theorem Ns:type_of% @List.cons_append:=@List.cons_append
theorem Nt:type_of% @Bool.eq_iff_iff:=@Bool.eq_iff_iff
theorem Nv:type_of% @Nat.le_trans:=@Nat.le_trans
theorem Nw:type_of% @List.nodup_cons:=@List.nodup_cons
theorem Ny:type_of% @List.cons.inj:=@List.cons.inj
theorem Nz:type_of% @congrArg:=@congrArg
theorem NA:type_of% @List.Perm.refl:=@List.Perm.refl
theorem NB:type_of% @UInt8.toNat_ofNat':=@UInt8.toNat_ofNat'
theorem NC:type_of% @List.Sublist.refl:=@List.Sublist.refl
theorem ND:type_of% @List.all_cons:=@List.all_cons
theorem NF:type_of% @List.sum_cons:=@List.sum_cons
theorem NG:type_of% @Array.toList_map:=@Array.toList_map
theorem NH:type_of% @List.getElem?_cons_zero:=@List.getElem?_cons_zero
theorem NI:type_of% @Classical.byContradiction:=@Classical.byContradiction
theorem NJ:type_of% @List.take_append_drop:=@List.take_append_drop
theorem NK:type_of% @List.filter_append:=@List.filter_append
theorem NL:type_of% @List.map_congr_left:=@List.map_congr_left
theorem NM:type_of% @List.flatMap_append:=@List.flatMap_append
theorem NO:type_of% @Array.toList_inj:=@Array.toList_inj
theorem NP:type_of% @Option.some.injEq:=@Option.some.injEq
theorem NQ:type_of% @Value.int.injEq:=@Value.int.injEq
theorem NR:type_of% @Bool.or_eq_false_iff:=@Bool.or_eq_false_iff
theorem NS:type_of% @Bool.and_self:=@Bool.and_self
theorem NT:type_of% @Bool.or_eq_true:=@Bool.or_eq_true
theorem NU:type_of% @List.length_set:=@List.length_set
theorem NV:type_of% @List.mem_range:=@List.mem_range
theorem NW:type_of% @List.sublist_append_right:=@List.sublist_append_right
theorem NX:type_of% @List.length_drop:=@List.length_drop
theorem NY:type_of% @List.nodup_nil:=@List.nodup_nil
theorem NZ:type_of% @Bool.or_assoc:=@Bool.or_assoc
theorem N0:type_of% @Array.getElem?_toList:=@Array.getElem?_toList
theorem N1:type_of% @List.length_filter_le:=@List.length_filter_le
theorem N2:type_of% @Nat.lt_or_ge:=@Nat.lt_or_ge
theorem N3:type_of% @List.mem_map_of_mem:=@List.mem_map_of_mem
theorem N4:type_of% @Below.frozen:=@Below.frozen
theorem N5:type_of% @decide_eq_true:=@decide_eq_true
theorem N6:type_of% @List.flatMap_cons:=@List.flatMap_cons
theorem N7:type_of% @List.drop_eq_nil_of_le:=@List.drop_eq_nil_of_le
theorem N8:type_of% @Option.map_some:=@Option.map_some
theorem N9:type_of% @decide_eq_false:=@decide_eq_false
theorem Oa:type_of% @List.getElem?_take_of_lt:=@List.getElem?_take_of_lt
theorem Ob:type_of% @Below.trans:=@Below.trans
theorem Oc:type_of% @List.Sublist.append:=@List.Sublist.append
theorem Od:type_of% @List.map_map:=@List.map_map
theorem Oe:type_of% @List.drop_zero:=@List.drop_zero
theorem Of:type_of% @Eq.trans:=@Eq.trans
theorem Og:type_of% @Int.natCast_nonneg:=@Int.natCast_nonneg
theorem Oh:type_of% @Bool.true_and:=@Bool.true_and
theorem Oi:type_of% @MapKept.run_getObj_map:=@MapKept.run_getObj_map
theorem Oj:type_of% @List.drop_length:=@List.drop_length
theorem Ol:type_of% @if_true:=@if_true
theorem Om:type_of% @Bool.not_eq_true':=@Bool.not_eq_true'
theorem On:type_of% @Array.getElem?_modify:=@Array.getElem?_modify
theorem Oo:type_of% @List.Pairwise.sublist:=@List.Pairwise.sublist
theorem Oq:type_of% @List.map_nil:=@List.map_nil
theorem Ot:type_of% @Bool.false_eq_true:=@Bool.false_eq_true
theorem Ou:type_of% @List.all_eq_true:=@List.all_eq_true
theorem Ov:type_of% @List.mem_of_getElem?:=@List.mem_of_getElem?
theorem Ow:type_of% @List.any_eq_true:=@List.any_eq_true
theorem Ox:type_of% @true_and:=@true_and
theorem Oy:type_of% @List.getElem?_map:=@List.getElem?_map
theorem Oz:type_of% @List.mem_filter:=@List.mem_filter
theorem OA:type_of% @List.perm_append_comm:=@List.perm_append_comm
theorem OB:type_of% @List.length_singleton:=@List.length_singleton
theorem OC:type_of% @Value.string.injEq:=@Value.string.injEq
theorem OD:type_of% @List.eq_nil_iff_forall_not_mem:=@List.eq_nil_iff_forall_not_mem
theorem OE:type_of% @List.pairwise_cons:=@List.pairwise_cons
theorem OF:type_of% @List.sublist_append_left:=@List.sublist_append_left
theorem OG:type_of% @Std.Legacy.Range.forIn_eq_forIn_range':=@Std.Legacy.Range.forIn_eq_forIn_range'
theorem OH:type_of% @List.nodup_iff_count:=@List.nodup_iff_count
theorem OJ:type_of% @List.length_range:=@List.length_range
theorem OK:type_of% @and_assoc:=@and_assoc
theorem OL:type_of% @List.filter_congr:=@List.filter_congr
theorem OM:type_of% @Nat.min_eq_left:=@Nat.min_eq_left
theorem ON:type_of% @List.take_set_of_le:=@List.take_set_of_le
theorem OO:type_of% @List.length_pos_iff:=@List.length_pos_iff
theorem OP:type_of% @List.filter_eq_self:=@List.filter_eq_self
theorem OQ:type_of% @Nat.add_zero:=@Nat.add_zero
theorem OS:type_of% @MapKept.run_setObj_map:=@MapKept.run_setObj_map
theorem OT:type_of% @Bool.or_false:=@Bool.or_false
theorem OU:type_of% @Nat.add_assoc:=@Nat.add_assoc
theorem OV:type_of% @Bool.and_true:=@Bool.and_true
theorem OW:type_of% @List.not_mem_nil:=@List.not_mem_nil
theorem OX:type_of% @decide_eq_decide:=@decide_eq_decide
theorem OY:type_of% @beq_iff_eq:=@beq_iff_eq
theorem OZ:type_of% @run_underlying:=@run_underlying
theorem O0:type_of% @Nat.eq_zero_or_pos:=@Nat.eq_zero_or_pos
theorem O1:type_of% @List.getElem?_take:=@List.getElem?_take
theorem O3:type_of% @Below.heap_setCell:=@Below.heap_setCell
theorem O4:type_of% @List.mem_of_find?_eq_some:=@List.mem_of_find?_eq_some
theorem O5:type_of% @List.getLast?_eq_getElem?:=@List.getLast?_eq_getElem?
theorem O6:type_of% @List.all_append:=@List.all_append
theorem O7:type_of% @List.range_succ:=@List.range_succ
theorem O8:type_of% @and_true:=@and_true
theorem O9:type_of% @Bool.false_or:=@Bool.false_or
theorem O':type_of% @List.getElem_append_left:=@List.getElem_append_left
theorem Pa:type_of% @List.map_eq_nil_iff:=@List.map_eq_nil_iff
theorem Pb:type_of% @List.ext_getElem:=@List.ext_getElem
theorem Pd:type_of% @List.perm_middle:=@List.perm_middle
theorem Pe:type_of% @List.drop_drop:=@List.drop_drop
theorem Pf:type_of% @List.take_of_length_le:=@List.take_of_length_le
theorem Pg:type_of% @Below.refl:=@Below.refl
theorem Ph:type_of% @List.all_nil:=@List.all_nil
theorem Pj:type_of% @UInt8.toNat_add:=@UInt8.toNat_add
theorem Pk:type_of% @if_false:=@if_false
theorem Pm:type_of% @or_assoc:=@or_assoc
theorem Pn:type_of% @UInt8.lt_irrefl:=@UInt8.lt_irrefl
theorem Po:type_of% @List.getElem?_toArray:=@List.getElem?_toArray
theorem Pp:type_of% @Nat.le_of_ble_eq_true:=@Nat.le_of_ble_eq_true
theorem Pq:type_of% @not_true_eq_false:=@not_true_eq_false
theorem Pr:type_of% @Array.toList_push:=@Array.toList_push
theorem Ps:type_of% @Iff.rfl:=@Iff.rfl
theorem Pt:type_of% @World.ownsRow_nil:=@World.ownsRow_nil
theorem Pu:type_of% @not_false_eq_true:=@not_false_eq_true
theorem Pv:type_of% @List.drop_left:=@List.drop_left
theorem Pw:type_of% @Below.mono:=@Below.mono
theorem Px:type_of% @or_false:=@or_false
theorem Py:type_of% @List.pairwise_append:=@List.pairwise_append
theorem Pz:type_of% @List.getElem_map:=@List.getElem_map
theorem PA:type_of% @MapKept.heap_set:=@MapKept.heap_set
theorem PB:type_of% @Ne.symm:=@Ne.symm
theorem PC:type_of% @List.isEmpty_iff:=@List.isEmpty_iff
theorem PD:type_of% @World.ownsRow.lt:=@World.ownsRow.lt
theorem PE:type_of% @List.flatMap_map:=@List.flatMap_map
theorem PF:type_of% @UInt32.toBitVec_inj:=@UInt32.toBitVec_inj
theorem PG:type_of% @Option.map_none:=@Option.map_none
theorem PH:type_of% @List.sum_append:=@List.sum_append
theorem PI:type_of% @World.ownsRow.mono:=@World.ownsRow.mono
theorem PJ:type_of% @List.getElem?_drop:=@List.getElem?_drop
theorem PK:type_of% @List.perm_cons:=@List.perm_cons
theorem PL:type_of% @bytesLess_eq:=@bytesLess_eq
theorem PM:type_of% @Nat.mul_le_mul:=@Nat.mul_le_mul
theorem PN:type_of% @Bool.false_and:=@Bool.false_and
theorem PO:type_of% @Bool.and_assoc:=@Bool.and_assoc
theorem PQ:type_of% @List.count_nil:=@List.count_nil
theorem PS:type_of% @List.map_set:=@List.map_set
theorem PT:type_of% @not_or:=@not_or
theorem PU:type_of% @false_or:=@false_or
abbrev PV:=World->Prop
abbrev PW:=Calls Tryz.prog
end Go.Proofs.YtdecokaadekjnaaGreat
namespace Go.Proofs.YtdecokaadekjnaaGreat
open Go Go.RowKit
abbrev aF:=List UInt8
def ax (l:aF):ByteArray:=⟨l.toArray⟩
@[reducible] def mG {α:Type}:Array α->List α
 | ⟨l⟩=>l
theorem pw {α:Type}(a:Array α):mG a=a.toList:=rfl
@[reducible] def LG {α β:Type}:α×β->β
 | (_,y)=>y
@[reducible] def I3:Oper->Op
 | ⟨_,op,_,_,_,_⟩=>op
@[reducible] def En:Oper->Option Nat
 | ⟨d,_,_,_,_,_⟩=>d
@[reducible] def L9:Oper->Option (Nat×Bool)
 | ⟨_,_,_,_,_,g⟩=>g
@[reducible] def L7:Oper->Nat
 | ⟨_,_,t,_,_,_⟩=>t
@[reducible] def Lq:Call->Callee
 | ⟨c,_,_⟩=>c
@[reducible] def JZ:Call->Array Operand
 | ⟨_,a,_⟩=>a
@[reducible] def Ly:Call->Array Nat
 | ⟨_,_,t⟩=>t
@[reducible] def KN:Field->Nat
 | ⟨_,t,_,_,_,_,_⟩=>t
@[reducible] def KB:Field->Nat
 | ⟨_,_,o,_,_,_,_⟩=>o
@[reducible] def mapR {α β:Type} (f:α->β):List α->List β
 | []=>[]
 | x::l=>f x::mapR f l
theorem HG {α β:Type}(f:α->β):∀l:List α,mapR f l=l.map f
 | []=>rfl
 | x::l=>by simp [mapR,HG f l]
@[reducible] def A1 {α:Type}:List α->Nat
 | []=>0
 | _::l=>A1 l+1
theorem lv {α:Type}:∀l:List α,A1 l=l.length
 | []=>rfl
 | _::l=>by simp [A1,lv l]
@[reducible] def Gc {α:Type}:List α->Nat->Bool
 | [],0=>true
 | _::l,n+1=>Gc l n
 | [],_+1=>false
 | _::_,0=>false
theorem yL {α:Type}:∀{l:List α} {n:Nat},Gc l n=true->l.length=n
 | [],0,_=>rfl
 | _::l,n+1,h=>by rw [Mm,yL (l:=l) h]
 | [],_+1,h=>by cases h
 | _::_,0,h=>by cases h
@[reducible] def ma {α:Type}:List α->Nat->Option α
 | [],_=>none
 | x::_,0=>some x
 | _::l,n+1=>ma l n
theorem wK {α:Type}:∀(l:List α) (n:Nat),ma l n=l[n]?
 | [],_=>rfl
 | _::_,0=>rfl
 | _::l,n+1=>by simp [ma,wK l n]
theorem dU {α:Type}(a:Array α)(n:Nat):ma a.toList n=a[n]?:=by rw [wK,N0]
@[reducible] def zK {α:Type}:List α->List α->List α
 | [],m=>m
 | x::l,m=>x::zK l m
theorem gK {α:Type}:∀l m:List α,zK l m=l++m
 | [],_=>rfl
 | x::l,m=>by simp [zK,gK l m]
@[reducible] def hasR:List Nat->Nat->Bool
 | [],_=>false
 | x::l,n=>match Nat.beq x n with
  | true=>true
  | false=>hasR l n
theorem re:∀(l:List Nat) (n:Nat),hasR l n=l.contains n
 | [],_=>rfl
 | x::l,n=>by
  have h:(Nat.beq x n)=(n==x):=by
   rw [Nt,Nat.beq_eq,OY];exact eq_comm
  rw [hasR,List.contains_cons,<-h,re l n];cases Nat.beq x n<;>rfl
theorem GZ {l:List Nat}{n:Nat}(h:hasR l n=true):n∈l:=by rw [re]at h;simpa using h
@[reducible] def setR {α:Type}:List α->Nat->α->Option (List α)
 | [],_,_=>none
 | _::l,0,y=>some (y::l)
 | x::l,n+1,y=>match setR l n y with
  | some r=>some (x::r)
  | none=>none
theorem xv {α:Type}{y:α}:∀{l r:List α} {n:Nat},setR l n y=some r->n< l.length/\r=l.set n y
 | [],_,_,h=>by cases h
 | _::l,_,0,h=>by cases h;exact⟨by simp,rfl⟩
 | x::l,_,n+1,h=>by
  simp only [setR]at h;split at h
  ·rename_i r hr;cases h;obtain⟨G,H⟩:=xv hr;exact⟨by simpa using G,by rw [H];rfl⟩
  ·cases h
@[reducible] def Bl {α:Type}:List α->Nat->List α->Option (List α)
 | l,0,[]=>some l
 | [],0,_::_=>none
 | _::l,0,y::G=>match Bl l 0 G with
  | some r=>some (y::r)
  | none=>none
 | [],_+1,_=>none
 | x::l,n+1,G=>match Bl l n G with
  | some r=>some (x::r)
  | none=>none
theorem wX {α:Type}:∀{l r:List α} {n:Nat} {G:List α},Bl l n G=some r->n+G.length<=l.length/\r=l.take n++G++l.drop (n+G.length)
 | [],_,0,[],h=>by cases h;exact⟨by simp,by simp⟩
 | _::_,_,0,[],h=>by cases h;exact⟨by simp,by simp⟩
 | [],_,0,_::_,h=>by cases h
 | _::l,_,0,y::G,h=>by
  simp only [Bl]at h;split at h
  ·rename_i r hr;cases h;obtain⟨J,H⟩:=wX hr;refine⟨by simpa using J,?_⟩;rw [H];simp
  ·cases h
 | [],_,_+1,_,h=>by cases h
 | x::l,_,n+1,G,h=>by
  simp only [Bl]at h;split at h
  ·rename_i r hr;cases h;obtain⟨J,H⟩:=wX hr;refine⟨by rw [Mm];omega,?_⟩;rw [H,show n+1+G.length=n+G.length+1 by omega];simp
  ·cases h
@[reducible] def Hp {α:Type}:Nat->List α->List α
 | 0,_=>[]
 | n+1,l=>zK l (Hp n l)
theorem Cc {α:Type}:∀(n:Nat) (l:List α),Hp n l=(List.replicate n l).flatten
 | 0,_=>rfl
 | n+1,l=>by simp [Hp,gK,Cc n l,List.replicate_succ]
theorem jZ {a b:Nat}(h:Nat.beq a b=true):a=b:=Nat.eq_of_beq_eq_true h
@[reducible] def FV {α:Type} (f:α->Bool):List α->Bool
 | []=>true
 | x::l=>match f x with
  | true=>FV f l
  | false=>false
theorem Ck {α:Type}(f:α->Bool):∀l:List α,FV f l=l.all f
 | []=>rfl
 | x::l=>by
  rw [FV,ND,Ck f l];cases f x<;>rfl
@[reducible] def mH {α:Type}:List (Nat×α)->Nat->Option α
 | [],_=>none
 | (t,x)::l,n=>match Nat.beq t n with
  | true=>some x
  | false=>mH l n
theorem pF {α:Type}:∀{l:List (Nat×α)} {n:Nat} {x:α},mH l n=some x->(n,x)∈l
 | [],n,x,h=>by cases h
 | (t,y)::l,n,x,h=>by
  simp only [mH]at h;split at h
  ·rename_i heq;have :=Nat.eq_of_beq_eq_true heq;subst this;cases h;exact Nc
  ·exact MD _ (pF h)
def bt (l:List UInt8)(i:Nat):UInt8:=l.getD i 0
inductive SV where
 | v (x:Value) | i (n:Int) | c (x:UInt8) | w (x:UInt32) | s (l:aF) | b (x:Bool) | tt | ff | un
 | a (blk off:Nat) | r (n:Int)
 | tup (xs:List SV)
 | ag (xs:List SV)
 | agl (cs:List Value)
mutual
@[reducible] def SV.val:SV->Value
 | .v x=>x | .i n=> .int .i64 n | .c x=> .int .u8 x.toNat | .w x=> .int .u32 x.toNat | .s l=> .string (ax l) | .b x=> .bool x
 | .tt=> .bool true | .ff=> .bool false | .un=>undef | .a blk off=> .pointer (some ⟨blk,off,none⟩)
 | .r n=> .int .i32 n
 | .tup xs=> .tuple (SV.aO xs).toArray
 | .ag xs=> .agg (SV.aO xs).toArray
 | .agl cs=> .agg cs.toArray
@[reducible] def SV.aO:List SV->List Value
 | []=>[]
 | x::xs=>x.val::SV.aO xs
end
inductive Kd where
 | i | c | w | s | b | v
 deriving DecidableEq
abbrev Kd.T:Kd->Type
 | .i=>Int | .c=>UInt8 | .w=>UInt32 | .s=>aF | .b=>Bool | .v=>Value
@[reducible] def Kd.sv:(k:Kd)->k.T->SV
 | .i=>SV.i | .c=>SV.c | .w=>SV.w | .s=>SV.s | .b=>SV.b | .v=>SV.v
@[reducible] def Kd.un:(k:Kd)->SV->Option k.T
 | .i,.i n=>some n
 | .c,.c x=>some x
 | .w,.w x=>some x
 | .s,.s l=>some l
 | .b,.b x=>some x
 | .b,.tt=>some true
 | .b,.ff=>some false
 | .v,.v x=>some x
 | .v,.a blk off=>some (.pointer (some ⟨blk,off,none⟩))
 | .v,.ag xs=>some (.agg (SV.aO xs).toArray)
 | .v,.agl cs=>some (.agg cs.toArray)
 | _,_=>none
theorem Kd.BK {k:Kd}{x:SV}{t:k.T}(h:k.un x=some t):x.val=(k.sv t).val:=by
 cases k<;>cases x<;>simp [Kd.un]at h<;>(try subst h)<;>rfl
abbrev Cur:List Kd->Type
 | []=>PV
 | k::L=>k.T->Cur L
def optK {α:Type}:Option α->(α->Prop)->Prop
 | some x,k=>k x
 | none,_=>False
theorem bM {α:Type}{x:Option α}{k:α->Prop}(h:optK x k):∃y,x=some y/\k y:=by
 cases x with
 | none=>exact h.elim
 | some y=>exact⟨y,rfl,h⟩
def optN {α:Type}:Option α->(α->Nat)->Nat
 | some x,k=>k x
 | none,_=>0
def Cur.app:(L:List Kd)->Cur L->List SV->PV
 | [],R,[],w=>R w
 | k::L,R,x::xs,w=>optK (k.un x) λt=>Cur.app L (R t) xs w
 | _,_,_,_=>False
def Cur.mk:(L:List Kd)->(List SV->PV)->Cur L
 | [],K=>K []
 | k::L,K=>λt=>Cur.mk L (λxs=>K (k.sv t::xs))
def AllT:(L:List Kd)->(List SV->Prop)->Prop
 | [],K=>K []
 | k::L,K=>∀t:k.T,AllT L (λxs=>K (k.sv t::xs))
@[reducible] def valOf:List SV->Value
 | [x]=>x.val
 | xs=> .tuple (SV.aO xs).toArray
def kH:(L:List Kd)->Cur L->List SV->Ending->PV
 | [],R,acc,e,w=>e= .returned (valOf acc)/\R w
 | k::L,R,acc,e,w=>∃t:k.T,kH L (R t) (acc++[k.sv t]) e w
def aw (L:List Kd)(R:Cur L):Ending->PV:=kH L R []
theorem kH.get:∀(L:List Kd) (R:Cur L) (acc:List SV) (e:Ending) (w:World),kH L R acc e w->
  ∃xs:List SV,e= .returned (valOf (acc++xs))/\Cur.app L R xs w/\xs.length=L.length
 | [],R,acc,e,w,h=>⟨[],by simpa using h.1,h.2,rfl⟩
 | k::L,R,acc,e,w,⟨t,h⟩=>by
  obtain⟨xs,G,H,J⟩:=kH.get L (R t) _ e w h;refine⟨k.sv t::xs,by simpa using G,?_,by simp [J]⟩;have:k.un (k.sv t)=some t:=by cases k<;>rfl
  rw [Cur.app,this];exact H
theorem Cur.Bv:∀(L:List Kd) (K:List SV->PV) (xs:List SV) (w:World),Cur.app L (Cur.mk L K) xs w->
  ∃G:List SV,SV.aO G=SV.aO xs/\K G w
 | [],K,[],w,h=>⟨[],rfl,h⟩
 | [],K,_::_,w,h=>h.elim
 | k::L,K,[],w,h=>h.elim
 | k::L,K,x::xs,w,h=>by
  rw [Cur.app]at h;obtain⟨t,H,h⟩:=bM h;obtain⟨G,J,V⟩:=Cur.Bv L _ xs w h;exact⟨k.sv t::G,by simp [SV.aO,J,Kd.BK H],V⟩
theorem aw.mono {L:List Kd}{R G:Cur L}(h:∀xs w,Cur.app L R xs w->Cur.app L G xs w){e:Ending}{w:World}(hr:aw L R e w):aw L G e w:=by
 unfold aw at*;revert h hr;generalize ([]:List SV)=acc
 induction L generalizing acc with
 | nil=>exact λh hr=>⟨hr.1,h [] w hr.2⟩
 | cons k L J=>
  rintro h ⟨t,V⟩
  refine⟨t,J _ (λxs w W=>?_) V⟩;have H:k.un (k.sv t)=some t:=by cases k<;>rfl
  have :=h (k.sv t::xs) w (by rw [Cur.app,H];exact W);rw [Cur.app,H]at this;exact this
abbrev Env:=List (Nat×SV)
@[reducible] def look:Env->Nat->Option SV
 | [],_=>none
 | (t,x)::e,n=>match Nat.beq t n with
  | true=>some x
  | false=>look e n
@[reducible] def Lm:Int->Option UInt8
 | .ofNat n=>match Nat.ble 256 n with
  | true=>none
  | false=>some (UInt8.ofNat n)
 | .negSucc _=>none
@[reducible] def Hi:Int->Option UInt32
 | .ofNat n=>match Nat.ble 4294967296 n with
  | true=>none
  | false=>some (UInt32.ofNat n)
 | .negSucc _=>none
theorem Fj {n:Int}{c:UInt8}(h:Lm n=some c):n=c.toNat:=by
 cases n with
 | negSucc m=>cases h
 | ofNat m=>
  simp only [Lm]at h;split at h
  ·cases h
  ·rename_i hb;cases h;have:¬256<=m:=λG=>by rw [Nat.ble_eq_true_of_le G]at hb;cases hb
   simp only [NB,Nat.reducePow,Int.ofNat_eq_natCast];omega
theorem C8 {n:Int}{c:UInt32}(h:Hi n=some c):n=c.toNat:=by
 cases n with
 | negSucc m=>cases h
 | ofNat m=>
  simp only [Hi]at h;split at h
  ·cases h
  ·rename_i hb;cases h;have:¬4294967296<=m:=λG=>by rw [Nat.ble_eq_true_of_le G]at hb;cases hb
   simp only [UInt32.toNat_ofNat',Nat.reducePow,Int.ofNat_eq_natCast];omega
def aD (N:Nat)(e:Env)(a:Act):Prop:=a.tmps.size=N/\∀t x,look e t=some x->a.tmps.getD t undef=x.val
theorem aD.put {N:Nat}{e:Env}{a:Act}(h:aD N e a){d:Nat}(hd:d< N){x:SV}{v:Value}(V:v=x.val):aD N ((d,x)::e) (a.put (some d) v):=by
 subst V;refine⟨by simp [Act.put,h.1],λt y J=>?_⟩;simp only [look]at J;split at J
 ·rename_i heq;have :=Nat.eq_of_beq_eq_true heq;subst this;cases J;simp [Act.put,Array.getD,h.1,hd]
 ·rename_i G;have H:d≠t:=λe=>by rw [e,Nat.beq_refl]at G;cases G
  rw [<-h.2 t y J];show(a.tmps.setIfInBounds d x.val).getD t undef=_;simp only [Array.getD,Array.size_setIfInBounds];split
  ·exact Array.getElem_setIfInBounds_ne _ H
  ·rfl
@[reducible] def ev (e:Env):Operand->Option SV
 | .tmp t=>look e t
 | .const (.int .i64 n)=>some (.i n)
 | .const (.int .u8 n)=>match Lm n with
  | some c=>some (.c c)
  | none=>some (.v (.int .u8 n))
 | .const (.int .u32 n)=>match Hi n with
  | some c=>some (.w c)
  | none=>some (.v (.int .u32 n))
 | .const (.string s)=>some (.s s.data.toList)
 | .const (.bool true)=>some .tt
 | .const (.bool false)=>some .ff
 | .const v=>some (.v v)
 | .global g=>some (.a g 0)
 | .func f=>some (.v (.func (.func f) #[] #[]))
theorem aG {N:Nat}{e:Env}{a:Act}(h:aD N e a){x:Operand}{y:SV}(G:ev e x=some y):a.eval x=y.val:=by
 cases x with
 | tmp t=>exact h.2 t y G
 | global g=>simp [ev]at G;subst G;rfl
 | func f=>simp [ev]at G;subst G;rfl
 | const v=>
  unfold ev at G;split at G<;>(try (rename_i heq;cases heq))
  all_goals first
   | (cases G;rfl)
   | skip
  ·split at G<;>cases G
   ·rename_i H;exact Nz (Value.int .u8) (Fj H)
   ·rfl
  ·split at G<;>cases G
   ·rename_i H;exact Nz (Value.int .u32) (C8 H)
   ·rfl
attribute [go_sem] Cur Kd.sv Kd.T SV.val SV.aO valOf
structure dJ where
 P:Program
 und:Nat->Option TypeDesc
 und_ok:∀t d,und t=some d->P.underlying t=some d
 inf:Nat->Option (Value×Nat×Nat)
 inf_ok:∀t z s b,inf t=some (z,s,b)->∃i,P.info? t=some i/\i.zero=some z/\i.size=s/\i.bytes=b
 fn:Nat->Bool
 fn_ok:∀f,fn f=true->∃g,P.funcs[f]?=some g/\g.body.isNone=false/\(g.name== "runtime.NumGoroutine")=false
 mixed:P.follows .mixedOrders=true
@[reducible] def dJ.U (T:dJ) (t:Nat):Option TypeDesc:=match T with
 | ⟨_,u,_,_,_,_,_,_⟩=>u t
@[reducible] def dJ.I (T:dJ) (t:Nat):Option (Value×Nat×Nat):=match T with
 | ⟨_,_,_,i,_,_,_,_⟩=>i t
@[reducible] def dJ.F (T:dJ) (f:Nat):Bool:=match T with
 | ⟨_,_,_,_,_,b,_,_⟩=>b f
@[reducible] def zH (d:Option TypeDesc):Kd:=match d with
 | some (.int .i64)=> .i | some (.int .u8)=> .c | some (.int .u32)=> .w | some .string=> .s | some .bool=> .b | _=> .v
@[reducible] def E9 (T:dJ) (t:Nat):List Kd:=match T.U t with
 | some (.tuple ts)=>mapR (λu=>zH (T.U u)) (mG ts)
 | d=>[zH d]
abbrev bJ (n:Int):Prop:= -9223372036854775808<=n/\n<=9223372036854775807
theorem jG {n:Int}(h:bJ n):IntKind.i64.wrap n=n:=by
 exact IntWalk.i64_in n h
def uT (x:UInt32)(n:Nat):UInt32:=UInt32.ofNat (x.toNat* 2^(min n 32))
@[reducible] def binT (op:BinOp) (x y:SV):Option SV:=match op,x,y with
 | .eql,.i a,.i b=>some (.b (decide (a=b)))
 | .neq,.i a,.i b=>some (.b (!decide (a=b)))
 | .lss,.i a,.i b=>some (.b (decide (a< b)))
 | .leq,.i a,.i b=>some (.b (decide (a<=b)))
 | .gtr,.i a,.i b=>some (.b (decide (b< a)))
 | .geq,.i a,.i b=>some (.b (decide (b<=a)))
 | .eql,.c a,.c b=>some (.b (decide (a=b)))
 | .neq,.c a,.c b=>some (.b (!decide (a=b)))
 | .lss,.c a,.c b=>some (.b (decide (a< b)))
 | .leq,.c a,.c b=>some (.b (decide (a<=b)))
 | .gtr,.c a,.c b=>some (.b (decide (b< a)))
 | .geq,.c a,.c b=>some (.b (decide (b<=a)))
 | .add,.c a,.c b=>some (.c (a+b))
 | .sub,.c a,.c b=>some (.c (a - b))
 | .eql,.s a,.s b=>some (.b (decide (a=b)))
 | .neq,.s a,.s b=>some (.b (!decide (a=b)))
 | .lss,.s a,.s b=>some (.b (Op.bytesLess a b))
 | .leq,.s a,.s b=>some (.b (Op.bytesLess a b||decide (a=b)))
 | .gtr,.s a,.s b=>some (.b (!(Op.bytesLess a b||decide (a=b))))
 | .geq,.s a,.s b=>some (.b (!Op.bytesLess a b))
 | .and,.w a,.w b=>some (.w (a &&& b))
 | .or,.w a,.w b=>some (.w (a ||| b))
 | .xor,.w a,.w b=>some (.w (a^^^b))
 | .andNot,.w a,.w b=>some (.w (a &&& ~~~b))
 | .eql,.w a,.w b=>some (.b (decide (a=b)))
 | .neq,.w a,.w b=>some (.b (!decide (a=b)))
 | .shl,.w a,.c n=>some (.w (uT a n.toNat))
 | _,_,_=>none
@[reducible] def binP (op:BinOp) (x y:SV):Option (Prop×SV):=match op,x,y with
 | .add,.i a,.i b=>some (bJ (a+b),.i (a+b))
 | .sub,.i a,.i b=>some (bJ (a - b),.i (a - b))
 | .mul,.i a,.i b=>some (bJ (a* b),.i (a* b))
 | .quo,.i a,.i b=>some (0<=a/\0< b/\bJ a,.i (a / b))
 | .rem,.i a,.i b=>some (0<=a/\0< b,.i (a % b))
 | .add,.s a,.s b=>some (a.length+b.length<=4611686018427387904,.s (a++b))
 | .shl,.w a,.i n=>some (0<=n,.w (uT a n.toNat))
 | _,_,_=>none
theorem fA (l:aF):(ax l).size=l.length:=by simp [ax,ByteArray.size]
theorem m9 (l:aF):(ax l).toList=l:=by
 have:∀n i acc,l.length - i=n->ByteArray.toList.loop (ax l) i acc=acc.reverse++l.drop i:=by
  intro n
  induction n with
  | zero=>
   intro i acc h;unfold ByteArray.toList.loop;rw [MJ (by rw [fA];omega),N7 (by omega)];simp
  | succ n G=>
   intro i acc h;have hi:i< l.length:=by omega
   unfold ByteArray.toList.loop;rw [MZ (by rw [fA];exact hi),G _ _ (by omega),Nn hi];have:(ax l).get! i=l[i]:=by simp [ax,ByteArray.get!,hi]
   simp [this]
 simpa [ByteArray.toList]using this _ 0 [] rfl
theorem AQ (a b:aF):ax a++ax b=ax (a++b):=by
 apply ByteArray.ext;simp [ax]
theorem oy {a b:aF}(h:ax a=ax b):a=b:=by simpa [ax]using h
theorem yE (l:aF)(i j:Nat):(ax l).extract i j=ax ((l.take j).drop i):=by
 apply ByteArray.ext;simp [ax,ByteArray.data_extract,List.drop_take]
theorem J' (s:ByteArray):s=ax s.data.toList:=by cases s;simp [ax]
theorem lS {α:Type}[BEq α][LawfulBEq α][DecidableEq α](a b:α):(a==b)=decide (a=b):=by
 rw [Nt];simp
theorem LL (a b:UInt8):((a.toNat:Int)==(b.toNat:Int))=decide (a=b):=by
 rw [Nt];simp only [OY,Mz];constructor
 ·intro h;exact MQ.1 (by omega)
 ·rintro rfl;rfl
theorem IS (a b:UInt32):((a.toNat:Int)==(b.toNat:Int))=decide (a=b):=by
 rw [Nt];simp only [OY,Mz];constructor
 ·intro h;exact UInt32.toNat_inj.1 (by omega)
 ·rintro rfl;rfl
theorem wrap_u8 (n:Int):IntKind.u8.wrap n=n % 256:=by simp [IntKind.wrap,IntKind.bits,IntKind.signed]
theorem wrap_u32 (n:Int):IntKind.u32.wrap n=n % 4294967296:=by simp [IntKind.wrap,IntKind.bits,IntKind.signed]
theorem Jq (a:UInt32):BitVec.ofInt IntKind.u32.bits (a.toNat:Int)=a.toBitVec:=by
 apply BitVec.eq_of_toNat_eq;have :=a.toNat_lt;simp [IntKind.bits]
theorem eqGuard_plain {P:Program}{w:World}{op:BinOp}{t:TypeId}{x y:Operand}{a b:Value}
  (h:(match a,b with | .nilIface,.nilIface=>false | .agg _,.agg _=>false | _,_=>true)=true):(eqGuard op t x y a b).run P w= .ok () w:=by
 unfold eqGuard;cases a<;>cases b<;>simp at h<;>cases op<;>rfl
theorem C0 {T:dJ}{o:Oper}{op:BinOp}{t J:Nat}{G H:Operand}{ρ:Operand->Value}{v:Value}{w:World}(V:o.op= .binOp op t G H J)
  (W:(eqGuard op t G H (ρ G) (ρ H)).run T.P w= .ok () w) (h:(binOp op t (ρ G) (ρ H)).run T.P w= .ok v w):(execOp ρ o).run T.P w= .ok (.value v) w:=by
 simp only [execOp,V,ME,W,Ms,h,MF]
theorem Me {a b:UInt8}:((a.toNat:Int)=b.toNat)↔a=b:=⟨λh=>MQ.1 (by omega),λh=>by rw [h]⟩
theorem Md {a b:UInt8}:((a.toNat:Int)< b.toNat)↔a< b:=by rw [Nf];omega
theorem Ma {a b:UInt8}:((a.toNat:Int)<=b.toNat)↔a<=b:=by rw [ML];omega
theorem Lz {a b:UInt32}:((a.toNat:Int)=b.toNat)↔a=b:=⟨λh=>UInt32.toNat_inj.1 (by omega),λh=>by rw [h]⟩
theorem Jz (a b:UInt8):IntKind.u8.wrap ((a.toNat:Int)+b.toNat)=(a+b).toNat:=by rw [wrap_u8,Pj];omega
theorem KE (a b:UInt8):IntKind.u8.wrap ((a.toNat:Int) - b.toNat)=(a - b).toNat:=by
 have :=a.toNat_lt;have :=b.toNat_lt;rw [wrap_u8,UInt8.toNat_sub];omega
theorem A9 (x:UInt32):IntKind.u32.wrap (x.toBitVec.toNat:Int)=x.toNat:=by
 have :=x.toNat_lt;rw [wrap_u32];show((x.toNat:Int)) % 4294967296=_;omega
theorem Iy (a b:UInt32):IntKind.u32.wrap ((a.toBitVec &&& b.toBitVec).toNat:Int)=(a &&& b).toNat:=A9 (a &&& b)
theorem JT (a b:UInt32):IntKind.u32.wrap ((a.toBitVec ||| b.toBitVec).toNat:Int)=(a ||| b).toNat:=A9 (a ||| b)
theorem Ix (a b:UInt32):IntKind.u32.wrap ((a.toBitVec^^^b.toBitVec).toNat:Int)=(a^^^b).toNat:=A9 (a^^^b)
theorem Hq (a b:UInt32):IntKind.u32.wrap ((a.toBitVec &&& ~~~b.toBitVec).toNat:Int)=(a &&& ~~~b).toNat:=A9 (a &&& ~~~b)
theorem CG (a:UInt32)(n:Nat):IntKind.u32.wrap ((a.toNat:Int)* 2^(min n IntKind.u32.bits))=(uT a n).toNat:=by
 rw [wrap_u32];rw [uT,UInt32.toNat_ofNat'];show((a.toNat:Int)* 2^(min n 32)) % 4294967296=((a.toNat* 2^min n 32 % 4294967296:Nat):Int);rw [Int.natCast_emod,Int.natCast_mul,Int.natCast_pow];rfl
theorem FX {P:Program}{op:BinOp}{t:Nat}{x y z:SV}{w:World}(h:binT op x y=some z):(binOp op t x.val y.val).run P w= .ok z.val w:=by
 unfold binT at h;split at h<;>cases h<;>simp only [SV.val,binOp,ne_eq,Pq,Pk,Op.intCmp,Op.intArith,Op.intBits,Op.stringOp,Op.shift,MF,lS,bne,m9,Bool.not_or,
  Me,Md,Ma,Lz,gt_iff_lt,ge_iff_le,Jz,KE,Jq]
 ·exact Nz (λv=>Result.ok (Value.int .u32 v) w) (Iy _ _)
 ·exact Nz (λv=>Result.ok (Value.int .u32 v) w) (JT _ _)
 ·exact Nz (λv=>Result.ok (Value.int .u32 v) w) (Ix _ _)
 ·exact Nz (λv=>Result.ok (Value.int .u32 v) w) (Hq _ _)
 rw [MJ (by omega),MF,Mv,CG]
theorem Gu {P:Program}{op:BinOp}{t:Nat}{x y z:SV}{p:Prop}{w:World}(h:binP op x y=some (p,z))(G:p):(binOp op t x.val y.val).run P w= .ok z.val w:=by
 unfold binP at h;split at h<;>cases h<;>simp only [SV.val,binOp,ne_eq,Pq,Pk,Op.intArith,Op.intDiv,Op.stringOp,Op.shift,MF]
 ·rw [jG G]
 ·rw [jG G]
 ·rw [jG G]
 ·obtain⟨H,J,V⟩:=G;rw [MJ (by omega),MF,Int.tdiv_eq_ediv_of_nonneg H,jG];rename_i a b;have W:0<=a / b:=Int.ediv_nonneg H (by omega);have h4:a / b<=a:=Int.ediv_le_self b H;unfold bJ at*;omega
 ·rw [MJ (by omega),MF,Int.tmod_eq_emod_of_nonneg G.1]
 ·rw [MJ,MF,AQ];rw [fA,fA];simp only [IntKind.max,IntKind.signed,IntKind.bits];simp;omega
 ·rw [MJ (by omega),MF,CG]
theorem vI (x:SV)(h:∀y,x≠ .v y)(G:∀y,x≠ .tup y)(H:∀y,x≠ .ag y)(J:∀y,x≠ .agl y):∀b:Value,(match x.val,b with | .nilIface,.nilIface=>false | .agg _,.agg _=>false | _,_=>true)=true:=by
 intro b;cases x<;>simp only [SV.val]<;>first | rfl | (exact absurd rfl (h _)) | (exact absurd rfl (G _)) | (exact absurd rfl (H _)) | (exact absurd rfl (J _))
attribute [go_sem] E9 zH
@[reducible] def kW:List SV->SV
 | []=> .tup []
 | [x]=>x
 | x::y::xs=> .tup (x::y::xs)
@[reducible] def evs (e:Env):List Operand->Option (List SV)
 | []=>some []
 | x::xs=>match ev e x,evs e xs with
  | some y,some G=>some (y::G)
  | _,_=>none
@[reducible] def single (d:Option TypeDesc):Bool:=match d with
 | some (.struct _) | some (.array _ _) | some (.tuple _) | some (.named _ _) | none=>false
 | _=>true
@[reducible] def xC (d:Option TypeDesc):Bool:=match d with
 | some (.struct _)=>true
 | some (.array _ _)=>true
 | _=>false
def Lf (k:Kd)(K:SV->Prop):Prop:=∃t:k.T,K (k.sv t)
@[reducible] def Lk:SV->Option Int
 | .i n=>some n
 | .c x=>some x.toNat
 | _=>none
@[reducible] def Ld:SV->Option Bool
 | .b x=>some x
 | .tt=>some true
 | .ff=>some false
 | _=>none
@[reducible] def Kg:SV->Option SV
 | .b x=>some (.b (!x))
 | .tt=>some .ff
 | .ff=>some .tt
 | _=>none
@[reducible] def aB:Value->Bool
 | .agg _=>false
 | .tuple _=>false
 | _=>true
def oneOk:SV->Prop->Prop
 | .v x,p=>aB x=true/\p
 | .i _,p=>p
 | .c _,p=>p
 | .w _,p=>p
 | .s _,p=>p
 | .b _,p=>p
 | .tt,p=>p
 | .ff,p=>p
 | .a _ _,p=>p
 | .r _,p=>p
 | .tup _,_=>False
 | .ag _,_=>False
 | .agl _,_=>False
 | .un,_=>False
@[reducible] def cellsOf:SV->List Value
 | .ag xs=>SV.aO xs
 | .agl cs=>cs
 | y=>[y.val]
def okC:SV->Prop->Prop
 | .v x,p=>aB x=true/\p
 | .i _,p=>p
 | .c _,p=>p
 | .w _,p=>p
 | .s _,p=>p
 | .b _,p=>p
 | .tt,p=>p
 | .ff,p=>p
 | .a _ _,p=>p
 | .r _,p=>p
 | .ag _,p=>p
 | .agl _,p=>p
 | .tup _,_=>False
 | .un,_=>False
def okAllC:List (Nat×SV)->Prop->Prop
 | [],p=>p
 | (_,z)::xs,p=>okC z (okAllC xs p)
@[reducible] def svOf:Value->SV
 | .int .i64 n=> .i n
 | .int .u8 n=>match Lm n with
  | some c=> .c c
  | none=> .v (.int .u8 n)
 | .int .u32 n=>match Hi n with
  | some c=> .w c
  | none=> .v (.int .u32 n)
 | .string s=> .s s.data.toList
 | .bool true=> .tt
 | .bool false=> .ff
 | x=> .v x
@[reducible] def cellK (T:dJ) (t:Nat):Option (List Kd):=match T.U t with
 | some (.struct fs)=>match FV (λf=>single (T.U (KN f))) (mG fs)with
  | true=>some (mapR (λf=>zH (T.U (KN f))) (mG fs))
  | false=>none
 | some (.array n el)=>match Nat.beq n 2,single (T.U el)with
  | true,true=>some [zH (T.U el),zH (T.U el)]
  | _,_=>none
 | _=>none
def CellsAt (w:World)(b:Nat):Nat->List SV->Prop
 | _,[]=>True
 | off,x::xs=>w.cell? ⟨b,off,none⟩=some x.val/\CellsAt w b (off+1) xs
def ExL:(L:List Kd)->(List SV->Prop)->Prop
 | [],K=>K []
 | k::L,K=>∃t:k.T,ExL L λxs=>K (k.sv t::xs)
def wP (w:World)(b off n:Nat)(cs:List Value)(k:SV->PV):Prop:=
 (cs.length=n/\cs.all aB=true/\∀j,j< n->(∃u,w.cell? ⟨b,off+j,none⟩=some u)/\w.frozen? ⟨b,off+j,none⟩=false)/\∀w',w'=World.setCells w b off cs->k .un w'
@[reducible] def vP:SV->Bool
 | .ag _=>false
 | .agl _=>false
 | .tup _=>false
 | _=>true
@[reducible] def sM:Value->List Value
 | .agg cs=>mG cs
 | v=>[v]
theorem lu (v:Value):sM v=v.cells.toList:=by cases v<;>rfl
@[reducible] def is1:Option (Value×Nat×Nat)->Option (Value×Nat)
 | some (z,n,b)=>match Nat.beq n 1 with
  | true=>some (z,b)
  | false=>none
 | none=>none
theorem nE {x:Option (Value×Nat×Nat)}{z:Value}{b:Nat}(h:is1 x=some (z,b)):x=some (z,1,b):=by
 unfold is1 at h;split at h
 ·split at h
  ·rename_i G;cases h;rw [jZ G]
  ·cases h
 ·cases h
@[reducible] def arr2:Option TypeDesc->Option Nat
 | some (.array n el)=>match Nat.beq n 2 with
  | true=>some el
  | false=>none
 | _=>none
@[reducible] def buildAg (T:dJ) (fs:Array Field):List SV->List (Nat×SV)->Option (List SV)
 | zs,[]=>some zs
 | zs,(i,x)::r=>match ma (mG fs) i with
  | some fd=>(match is1 (T.I (KN fd)),vP x with
   | some (_,_),true=>(match setR zs (KB fd) x with
    | some G=>buildAg T fs G r
    | none=>none)
   | _,_=>none)
  | none=>none
@[reducible] def buildRow (sz:Nat):List Value->List (Nat×SV)->Option (List Value)
 | zs,[]=>some zs
 | zs,(i,x)::r=>match Gc (cellsOf x) sz,Bl zs (Nat.mul i sz) (cellsOf x)with
  | true,some G=>buildRow sz G r
  | _,_=>none
@[reducible] def evp (e:Env):List (Nat×Operand)->Option (List (Nat×SV))
 | []=>some []
 | (i,x)::r=>match ev e x,evp e r with
  | some y,some G=>some ((i,y)::G)
  | _,_=>none
def dI (w:World)(x:Value)(m:Nat)(sz:Nat)(news:List Value):Prop:=
 news.length=m* sz/\news.all aB=true/\((x= .slice none m 0/\m=0)\/∃b off c,x= .slice (some ⟨b,off,none⟩) m c/\∀j u,news[j]?=some u->w.cell? ⟨b,off+j,none⟩=some u)
def tM (el sz by_:Nat)(s x:Value)(w:World)(k:SV->PV):Prop:=
 ∃(base n m:Nat) (xs news:List Value),w.ownsRow base el sz s n xs/\base<=w.heap.size/\dI w x m sz news/\(n+m<=maxLen/\(n+m)* by_<=140737488355328)/\
  ∀v w',w'.ownsRow base el sz v (n+m) (xs++news)->w.grownBy w' s.ownBlock->(∀b,v.ownBlock=some b->s.ownBlock=some b\/w.heap.size<=b)->k (.v v) w'
def nilP:Value->Option Bool
 | .pointer q=>some q.isNone
 | .slice a _ _=>some a.isNone
 | .map r=>some r.isNone
 | _=>none
def dw (l:aF):List Value:=l.map λc=> .int .u8 c.toNat
def wB (w:World)(el b:Nat)(l:aF):Prop:=
 ∃cur lo hi,w.heap[b]?=some (.cells cur el (lo,hi))/\cur.toList.take l.length=dw l/\l.length<=cur.size/\cur.size<=lo
theorem oneOk.get {z:SV}{p:Prop}(h:oneOk z p):aB z.val=true/\p:=by
 cases z<;>simp only [oneOk]at h<;>first | exact⟨rfl,h⟩ | exact h
@[reducible] def buildAr:List SV->List (Nat×SV)->Option (List SV)
 | zs,[]=>some zs
 | zs,(i,x)::r=>match vP x,setR zs i x with
  | true,some G=>buildAr G r
  | _,_=>none
@[reducible] def evI (e:Env) (x:Operand):Option Int:=match ev e x with
 | some y=>Lk y
 | none=>none
theorem zO {e:Env}{x:Operand}{n:Int}(h:evI e x=some n):∃y,ev e x=some y/\Lk y=some n:=by
 unfold evI at h;split at h
 ·exact⟨_,by assumption,h⟩
 ·cases h
@[reducible] def Im {α β:Type} (f:α->β):Option α->Option β
 | some x=>some (f x)
 | none=>none
@[reducible] def LV (e:Env):Option Operand->Option SV
 | some x=>ev e x
 | none=>none
@[reducible] def JE {α:Type}:Option α->Bool
 | some _=>true
 | none=>false
theorem CN {α:Type}(x:Option α):JE x=x.isSome:=by cases x<;>rfl
inductive PR where
 | ret (y:SV) | req (p:Prop) (y:SV) | ok (ps:List (Nat×SV)) (y:SV)
 | nilP (q:Bool) (p:Value) | nilS (q:Bool) (p:Value) | arr (p q:Value)
 | sl (sz:Nat) (v:Value) (lo:Int) (hi:Option Int)
 | ptr (v:Value) | ix (sz:Nat) (v:Value) (n:Int) | len (v:Value) | bad
def runPR:PR->(SV->Prop)->Prop
 | .ret y,k=>k y
 | .req p y,k=>p/\k y
 | .ok ps y,k=>okAllC ps (k y)
 | .nilP true p,k=>∃q,p= .pointer q/\k (.b q.isNone)
 | .nilP false p,k=>∃q,p= .pointer q/\k (.b (!q.isNone))
 | .nilS true p,k=>∃q n c,p= .slice q n c/\k (.b q.isNone)
 | .nilS false p,k=>∃q n c,p= .slice q n c/\k (.b (!q.isNone))
 | .arr p q,k=>∃G H J V:UInt32,p= .agg #[.int .u32 G.toNat,.int .u32 H.toNat]/\q= .agg #[.int .u32 J.toNat,.int .u32 V.toNat]/\k (.b (!(decide (G=J)&&decide (H=V))))
 | .sl sz val lo none,k=>∃(a:Option Addr) (len cap:Nat),val= .slice a len cap/\0<=lo/\lo<=(len:Int)/\(len:Int)<=cap/\
   k (.v (.slice (if cap=lo.toNat then a else a.map (·.add (lo.toNat* sz))) ((len:Int).toNat - lo.toNat) (cap - lo.toNat)))
 | .sl sz val lo (some hi),k=>∃(a:Option Addr) (len cap:Nat),val= .slice a len cap/\0<=lo/\lo<=hi/\hi<=cap/\
   k (.v (.slice (if cap=lo.toNat then a else a.map (·.add (lo.toNat* sz))) (hi.toNat - lo.toNat) (cap - lo.toNat)))
 | .ptr val,k=>∃b off,val= .pointer (some ⟨b,off,none⟩)/\k (.a b off)
 | .ix sz val n,k=>∃b off len cap,val= .slice (some ⟨b,off,none⟩) len cap/\0<=n/\n< len/\k (.a b (off+n.toNat* sz))
 | .len val,k=>∃a n cap,val= .slice a n cap/\k (.i n)
 | .bad,_=>False
@[reducible] def slR (T:dJ) (el:Nat) (val:Value) (lo:Int) (hi:Option Int):PR:=match T.I el with
 | none=> .bad
 | some (_,sz,_)=> .sl sz val lo hi
@[reducible] def pureR (T:dJ) (e:Env):Op->PR
 | .move x=>match ev e x with | some y=> .ret y | none=> .bad
 | .assign x=>match ev e x with | some y=> .ret y | none=> .bad
 | .pick c a b=>match ev e c with
  | some .tt=>(match ev e a with | some y=> .ret y | none=> .bad)
  | some .ff=>(match ev e b with | some y=> .ret y | none=> .bad)
  | _=> .bad
 | .binOp op t x y _=>match ev e x,ev e y with
  | some a,some b=>(match binT op a b with
   | some z=> .ret z
   | none=>match binP op a b with
    | some (p,z)=> .req p z
    | none=>match op,T.U t,Ld a,Ld b with
     | .eql,some .bool,some p,some q=> .ret (.b (p==q))
     | .neq,some .bool,some p,some q=> .ret (.b (!(p==q)))
     | .eql,some (.pointer _),none,none=>(match a,b with
      | .v p,.v (.pointer none)=> .nilP true p
      | .a _ _,.v (.pointer none)=> .ret .ff
      | _,_=> .bad)
     | .neq,some (.pointer _),none,none=>(match a,b with
      | .v p,.v (.pointer none)=> .nilP false p
      | .a _ _,.v (.pointer none)=> .ret .tt
      | _,_=> .bad)
     | .eql,some (.slice _),none,none=>(match a,b with
      | .v p,.v (.slice none n m)=>(match Nat.beq n 0,Nat.beq m 0 with
       | true,true=> .nilS true p
       | _,_=> .bad)
      | _,_=> .bad)
     | .neq,some (.slice _),none,none=>(match a,b with
      | .v p,.v (.slice none n m)=>(match Nat.beq n 0,Nat.beq m 0 with
       | true,true=> .nilS false p
       | _,_=> .bad)
      | _,_=> .bad)
     | .neq,some (.array n el),none,none=>(match Nat.beq n 2,T.U el,is1 (T.I el),a,b with
      | true,some (.int .u32),some (_,_),.v p,.v q=> .arr p q
      | _,_,_,_,_=> .bad)
     | _,_,_,_=> .bad)
  | _,_=> .bad
 | .unOp op _ x=>match op,ev e x with
  | .not,some y=>(match Kg y with | some z=> .ret z | none=> .bad)
  | .neg,some (.i n)=> .req (bJ (0 - n)) (.i (0 - n))
  | _,_=> .bad
 | .convert src dst x=>match T.U src,T.U dst,ev e x with
  | some (.int _),some (.int .i64),some (.c x)=> .ret (.i x.toNat)
  | some (.int _),some (.int .u8),some (.i n)=> .ret (.c (UInt8.ofNat (n % 256).toNat))
  | some (.int _),some (.int .i64),some (.i n)=> .req (bJ n) (.i n)
  | some (.int _),some (.int .i32),some (.c x)=> .ret (.r x.toNat)
  | some (.int _),some (.int .i32),some (.i n)=> .req (0<=n/\n< 2147483648) (.r n)
  | some (.int _),some .string,some (.r n)=> .req (0<=n/\n< 128) (.s [UInt8.ofNat n.toNat])
  | _,_,_=> .bad
 | .index t x ix=>match T.U t,ev e x,ev e ix with
  | some .string,some (.s l),some (.i n)=> .req (0<=n/\n< l.length) (.c (bt l n.toNat))
  | _,_,_=> .bad
 | .slice t x lo hi none=>match T.U t,ev e x,Im (ev e) lo,Im (ev e) hi with
  | some .string,some (.s l),none,none=> .ret (.s l)
  | some .string,some (.s l),some (some (.i a)),none=> .req (0<=a/\a<=l.length) (.s (l.drop a.toNat))
  | some .string,some (.s l),none,some (some (.i b))=> .req (0<=b/\b<=l.length) (.s (l.take b.toNat))
  | some .string,some (.s l),some (some (.i a)),some (some (.i b))=> .req (0<=a/\a<=b/\b<=l.length) (.s ((l.take b.toNat).drop a.toNat))
  | some (.slice el),some (.v val),none,none=>slR T el val 0 none
  | some (.slice el),some (.v val),some (some (.i a)),none=>slR T el val a none
  | some (.slice el),some (.v val),none,some (some (.i b))=>slR T el val 0 (some b)
  | some (.slice el),some (.v val),some (some (.i a)),some (some (.i b))=>slR T el val a (some b)
  | _,_,_,_=> .bad
 | .extract x i=>match ev e x with
  | some (.tup xs)=>(match ma xs i with | some y=> .ret y | none=> .bad)
  | _=> .bad
 | .nilCheck x=>match ev e x with
  | some (.a b off)=> .ret (.a b off)
  | some (.v val)=> .ptr val
  | _=> .bad
 | .fieldAddr s x f=>match T.U s,ev e x with
  | some (.struct fs),some (.a b off)=>(match ma (mG fs) f with
   | some fd=>(match T.I (KN fd)with
    | some (_,sz,_)=>(match Nat.beq sz 0 with
     | true=> .bad
     | false=> .ret (.a b (off+(KB fd))))
    | none=> .bad)
   | none=> .bad)
  | _,_=> .bad
 | .indexAddr t x ix=>match T.U t,ev e x,evI e ix with
  | some (.slice el),some (.v val),some n=>(match T.I el with
   | some (_,sz,_)=> .ix sz val n
   | none=> .bad)
  | some (.array len el),some (.a b off),some n=>(match T.I el with
   | some (_,sz,_)=> .req (0<=n/\n< len) (.a b (off+n.toNat* sz))
   | none=> .bad)
  | _,_,_=> .bad
 | .build t parts=>match T.U t,T.I t,evp e (mG parts)with
  | some (.struct fs),some (.agg zs,_,_),some ps=>(match FV (λf=>JE (T.I (KN f))) (mG fs),buildAg T fs (mapR svOf (mG zs)) ps with
   | true,some xs=> .ok ps (.ag xs)
   | _,_=> .bad)
  | some (.array _ el),some (.agg zs,_,_),some []=>(match JE (T.I el)with
   | true=> .ret (.agl (mG zs))
   | false=> .bad)
  | some (.array _ el),some (.agg zs,_,_),some (p::ps)=>(match is1 (T.I el)with
   | some (_,_)=>(match buildAr (mapR svOf (mG zs)) (p::ps)with
    | some xs=> .ok (p::ps) (.ag xs)
    | none=> .bad)
   | _=> .bad)
  | _,_,_=> .bad
 | .makeFunc fn first captured=>match fn,evs e (mG first),evs e (mG captured)with
  | .func f,some [],some G=> .ret (.v (.func (.func f) #[] (SV.aO G).toArray))
  | _,_,_=> .bad
 | .call c=>match Lq c with
  | .builtin .len=>(match ma (mG (Ly c)) 0,LV e (ma (mG (JZ c)) 0)with
   | some t,some (.s l)=>(match T.U t with | some .string=> .ret (.i l.length) | _=> .bad)
   | some t,some (.v val)=>(match T.U t with | some (.slice _)=> .len val | _=> .bad)
   | _,_=> .bad)
  | .builtin .max=>(match evs e (mG (JZ c))with
   | some [.i p,.i q]=> .ret (.i (if q> p then q else p))
   | some [.s p,.s q]=> .ret (.s (if(!Op.bytesLess p q)then p else q))
   | _=> .bad)
  | .builtin .min=>(match evs e (mG (JZ c))with
   | some [.i p,.i q]=> .ret (.i (if q< p then q else p))
   | some [.s p,.s q]=> .ret (.s (if(Op.bytesLess p q||decide (p=q))then p else q))
   | _=> .bad)
  | _=> .bad
 | _=> .bad
def wY (T:dJ)(e:Env)(o:Oper)(k:SV->Prop):Prop:=runPR (pureR T e (I3 o)) k
def forceL {α:Type}:List α->(List α->Prop)->Prop
 | [],k=>k []
 | x::l,k=>forceL l λG=>k (x::G)
theorem gg {α:Type}:∀(l:List α) (k:List α->Prop),forceL l k=k l
 | [],_=>rfl
 | x::l,k=>by rw [forceL,gg l]
inductive LR where
 | one (k:Kd) | agg (ks:List Kd) | list (n:Nat) | bad
@[reducible] def loadR (T:dJ) (t:Nat):LR:=match single (T.U t)with
 | true=> .one (zH (T.U t))
 | false=>match xC (T.U t),cellK T t,T.I t with
   | true,some ks,some (_,n,_)=>(match Nat.beq (A1 ks) n with
    | true=> .agg ks
    | false=> .bad)
   | true,none,some (_,n,_)=> .list n
   | _,_,_=> .bad
def runLoad:LR->World->Nat->Nat->(SV->PV)->Prop
 | .one kd,w,b,off,k=>Lf kd λy=>w.cell? ⟨b,off,none⟩=some y.val/\k y w
 | .agg ks,w,b,off,k=>ExL ks λxs=>CellsAt w b off xs/\k (.ag xs) w
 | .list n,w,b,off,k=>∃cs:List Value,cs.length=n/\(∀j,j< n->w.cell? ⟨b,off+j,none⟩=cs[j]?)/\k (.agl cs) w
 | .bad,_,_,_,_=>False
def sT (T:dJ)(t b off:Nat)(w:World)(k:SV->PV):Prop:=runLoad (loadR T t) w b off k
inductive SR where
 | one (z:SV) | many (n:Nat) (cs:List Value) | val (n:Nat) (x:Value) | bad
@[reducible] def storeR (T:dJ) (t:Nat) (z:SV):SR:=match single (T.U t)with
 | true=>(match is1 (T.I t)with
    | some (_,_)=> .one z
    | _=> .bad)
 | false=>(match T.I t,z with
    | some (_,n,_),.ag xs=> .many n (SV.aO xs)
    | some (_,n,_),.agl cs=> .many n cs
    | some (_,n,_),.v x=> .val n x
    | _,_=> .bad)
def runStore:SR->World->Nat->Nat->(SV->PV)->Prop
 | .one z,w,b,off,k=>oneOk z (((∃u,w.cell? ⟨b,off,none⟩=some u)/\w.frozen? ⟨b,off,none⟩=false)/\∀w',w'=w.setCell ⟨b,off,none⟩ z.val->k .un w')
 | .many n cs,w,b,off,k=>wP w b off n cs k
 | .val n x,w,b,off,k=>∃cs:List Value,x= .agg cs.toArray/\wP w b off n cs k
 | .bad,_,_,_,_=>False
def pM (T:dJ)(t b off:Nat)(z:SV)(w:World)(k:SV->PV):Prop:=runStore (storeR T t z) w b off k
noncomputable def dj (es:List MapEntry)(q:Value):Option Value:=open Classical in (es.find? λx=>decide (x.key=q)).map (·.val)
def kh (d:TypeDesc)(q:Value):Prop:=match d with
 | .array n _=>n=2/\∃x y,q= .agg #[.string x,.string y]
 | d=>MapKept.IsKey d q
def IsMap (w:World)(r:Nat)(d:TypeDesc)(m:Value->Option Value):Prop:=
 ∃es clock,w.heap[r]?=some (.map es clock)/\MapKept.Stamped es clock/\(∀x∈es.toList,kh d x.key)/\∀q,m q=dj es.toList q
noncomputable def ef (m:Value->Option Value)(q v:Value):Value->Option Value:=open Classical in λx=>if x=q then some v else m x
structure cX (w w':World)(r:Nat):Prop where
 os:w'.os=w.os
 tape:w'.tape=w.tape
 output:w'.output=w.output
 size:w'.heap.size=w.heap.size
 block:∀b,b≠r->w'.heap[b]?=w.heap[b]?
@[reducible] def keyOk (d:TypeDesc) (y:SV):Bool:=match d,y with
 | .int .i64,.i _=>true
 | .int .u8,.c _=>true
 | .string,.s _=>true
 | _,_=>false
@[reducible] def keyOkT (T:dJ) (d:TypeDesc) (y:SV):Bool:=match keyOk d y,d,y with
 | true,_,_=>true
 | false,.array n e,.ag [.s _,.s _]=>(match Nat.beq n 2,T.U e,is1 (T.I e)with
  | true,some .string,some (_,_)=>true
  | _,_,_=>false)
 | _,_,_=>false
def Ci (w:World)(r:Nat)(s:Int)(q:Value):Prop:=
 ∃(es:Array MapEntry) (clock j:Nat) (x:MapEntry),w.heap[r]?=some (.map es clock)/\es[j]?=some x/\x.key=q/\s=x.born
@[reducible] def FW (d:Option TypeDesc):Bool:=match d with
 | some (.struct _)=>true
 | some (.array _ _)=>true
 | _=>false
@[reducible] def svV:SV->Option Value
 | .v x=>some x
 | _=>none
theorem EO {y:SV}{x:Value}(h:svV y=some x):y= .v x:=by
 unfold svV at h;split at h<;>cases h
 rfl
@[reducible] def I7 (ok:Bool) (y:SV) (g:Bool):SV:=match ok with
 | true=> .tup [y,.b g]
 | false=>y
inductive OR where
 | pure (p:PR)
 | toB (el:Nat) (l:aF) | ofB (v:Value)
 | load (r:LR) (b off:Nat) | loadV (r:LR) (v:Value)
 | store (r:SR) (b off:Nat) | storeV (r:SR) (v:Value)
 | alloc (cs:List Value) (el:Nat) | mmap
 | mksl (el:Nat) (z:Value) (n m:Int)
 | mapup (d:TypeDesc) (v:Value) (q z:SV) | mapent (d:TypeDesc) (v:Value) (q:SV) | entst (v:Value) (s:Int) (y:SV)
 | lookup (d:TypeDesc) (kd:Kd) (z v:Value) (q:SV) (ok:Bool)
 | boxA (el:Nat) (v:Value) | box1 (el:Nat) (v:Value) | boxC (el:Nat) (y:SV)
 | bsl (el len:Nat) (ps:List (Nat×SV)) (cs:List Value)
 | app (el sz by_:Nat) (s x:Value) | clr (z s:Value)
 | dyn (v:Value) (xs:List SV) (L:List Kd) | call (f:Nat) (xs:List SV) (L:List Kd)
 | bad
def runOR (T:dJ):OR->World->(SV->PV)->Prop
 | .pure p,w,k=>runPR p λy=>k y w
 | .toB el l,w,k=>∀(b cap:Nat) (w':World),b=w.heap.size->wB w' el b l->w.grownBy w' none->k (.v (.slice (some ⟨b,0,none⟩) l.length cap)) w'
 | .ofB val,w,k=>∃(b off n c:Nat) (l:aF),val= .slice (some ⟨b,off,none⟩) n c/\l.length=n/\(∀j x,l[j]?=some x->w.cell? ⟨b,off+j,none⟩=some (.int .u8 x.toNat))/\k (.s l) w
 | .load r b off,w,k=>runLoad r w b off k
 | .loadV r val,w,k=>∃b off,val= .pointer (some ⟨b,off,none⟩)/\runLoad r w b off k
 | .store r b off,w,k=>runStore r w b off k
 | .storeV r val,w,k=>∃b off,val= .pointer (some ⟨b,off,none⟩)/\runStore r w b off k
 | .alloc cs el,w,k=>forceL cs λcs=>∀(b:Nat) (w':World),b=w.heap.size->w'=w.alloc (.cells cs.toArray el)->k (.a b 0) w'
 | .mmap,w,k=>∀(b:Nat) (w':World),b=w.heap.size->w'=w.alloc (.map #[] 0)->k (.v (.map (some b))) w'
 | .mksl el z n m,w,k=>(0<=n/\n=m/\n<=1099511627776)/\∀(b:Nat) (w':World),b=w.heap.size->w'=w.alloc (.cells (List.replicate n.toNat z).toArray el)->k (.v (.slice (some ⟨b,0,none⟩) n.toNat n.toNat)) w'
 | .mapup d val q z,w,k=>∃(r:Nat) (mm:Value->Option Value),val= .map (some r)/\IsMap w r d mm/\∀w',IsMap w' r d (ef mm q.val z.val)->cX w w' r->k .un w'
 | .mapent d val q,w,k=>∃(r:Nat) (mm:Value->Option Value),val= .map (some r)/\IsMap w r d mm/\∀(v0:Value) (s:Int) (w':World),IsMap w' r d (ef mm q.val v0)->cX w w' r->Ci w' r s q.val->k (.tup [.v v0,.i s]) w'
 | .entst val s y,w,k=>∃(r:Nat) (d:TypeDesc) (mm:Value->Option Value) (q:Value),val= .map (some r)/\IsMap w r d mm/\Ci w r s q/\∀w',IsMap w' r d (ef mm q y.val)->cX w w' r->k .un w'
 | .lookup d kd z val q ok,w,k=>∃(r:Nat) (mm:Value->Option Value),val= .map (some r)/\IsMap w r d mm/\Lf kd λy=>∃g:Bool,((g=true/\mm q.val=some y.val)\/(g=false/\mm q.val=none/\y.val=z))/\k (I7 ok y g) w
 | .boxA el val,w,k=>∃cs:List Value,val= .agg cs.toArray/\∀(b:Nat) (w':World),b=w.heap.size->w'=w.alloc (.cells cs.toArray el)->k (.a b 0) w'
 | .box1 el val,w,k=>aB val=true/\∀(b:Nat) (w':World),b=w.heap.size->w'=w.alloc (.cells #[val] el)->k (.a b 0) w'
 | .boxC el y,w,k=>okC y (forceL (cellsOf y) λcs=>∀(b:Nat) (w':World),b=w.heap.size->w'=w.alloc (.cells cs.toArray el)->k (.a b 0) w')
 | .bsl el len ps cs,w,k=>okAllC ps (forceL cs λcs=>∀(b:Nat) (w':World),b=w.heap.size->w'=w.alloc (.cells cs.toArray el)->k (.v (.slice (some ⟨b,0,none⟩) len len)) w')
 | .app el sz by_ s x,w,k=>tM el sz by_ s x w k
 | .clr z s,w,k=>∃(a:Option Addr) (n cap:Nat),s= .slice a n cap/\((n=0/\k (.tup []) w)\/∃b off,a=some ⟨b,off,none⟩/\(∀j,j< n->(∃u,w.cell? ⟨b,off+j,none⟩=some u)/\w.frozen? ⟨b,off+j,none⟩=false)/\∀w',w'=World.setCells w b off (List.replicate n z)->k (.tup []) w')
 | .dyn val xs L,w,k=>forceL (SV.aO xs) λvs=>forceL L λL=>∃(f:Nat) (ca:List Value),val= .func (.func f) #[] ca.toArray/\T.fn f=true/\Calls T.P f (vs++ca).toArray w (aw L (Cur.mk L λG w'=>k (kW G) w'))
 | .call f xs L,w,k=>forceL (SV.aO xs) λvs=>forceL L λL=>Calls T.P f vs.toArray w (aw L (Cur.mk L λG w'=>k (kW G) w'))
 | .bad,_,_=>False
@[reducible] def mapupR (T:dJ) (e:Env) (t:Nat) (m x y:Operand):OR:=match T.U t,ev e m,ev e x,ev e y with
  | some (.map kt _),some (.v val),some q,some z=>(match T.U kt with
   | some d=>(match keyOkT T d q with
    | true=> .mapup d val q z
    | false=> .bad)
   | none=> .bad)
  | _,_,_,_=> .bad
@[reducible] def opR (T:dJ) (e:Env) (o:Oper):OR:=
 match (I3 o)with
 | .convert src dst x=>match T.U src,T.U dst,ev e x with
  | some .string,some (.slice el),some (.s l)=>(match T.U el with
   | some (.int .u8)=> .toB el l
   | _=> .bad)
  | some (.slice el),some .string,some (.v val)=>(match T.U el with
   | some (.int .u8)=> .ofB val
   | _=> .bad)
  | _,_,_=> .pure (pureR T e (I3 o))
 | .load t x=>match ev e x with
  | some (.a b off)=> .load (loadR T t) b off
  | some (.v val)=> .loadV (loadR T t) val
  | _=> .bad
 | .store t x y=>match ev e x,ev e y with
  | some (.a b off),some z=> .store (storeR T t z) b off
  | some (.v val),some z=> .storeV (storeR T t z) val
  | _,_=> .bad
 | .alloc el=>match T.I el with
  | some (z,_,_)=> .alloc (sM z) el
  | none=> .bad
 | .makeMap _ none=> .mmap
 | .makeSlice t l c=>match T.U t,ev e l,ev e c with
  | some (.slice el),some (.i n),some (.i m)=>(match is1 (T.I el)with
   | some (z,by_)=>(match aB z,Nat.ble by_ 256 with
    | true,true=> .mksl el z n m
    | _,_=> .bad)
   | _=> .bad)
  | _,_,_=> .bad
 | .mapUpdate t m x y=>mapupR T e t m x y
 | .insert t m x y=>mapupR T e t m x y
 | .mapEntry t m x=>match T.U t,ev e m,ev e x with
  | some (.map kt G),some (.v val),some q=>(match T.U kt,T.I G with
   | some d,some _=>(match keyOkT T d q with
    | true=> .mapent d val q
    | false=> .bad)
   | _,_=> .bad)
  | _,_,_=> .bad
 | .entryStore _ m s y=>match ev e m,ev e s,ev e y with
  | some (.v val),some (.i s),some y=> .entst val s y
  | _,_,_=> .bad
 | .lookup t m x ok=>match T.U t,ev e m,ev e x with
  | some (.map kt G),some (.v val),some q=>(match T.U kt,T.I G with
   | some d,some (z,_,_)=>(match keyOkT T d q with
    | true=> .lookup d (zH (T.U G)) z val q ok
    | false=> .bad)
   | _,_=> .bad)
  | _,_,_=> .bad
 | .box el x=>match ev e x with
  | some y=>(match svV y,FW (T.U el)with
   | some val,true=> .boxA el val
   | some val,false=> .box1 el val
   | none,_=> .boxC el y)
  | none=> .bad
 | .buildSlice t len parts=>match T.U t,evp e (mG parts)with
  | some (.slice el),some ps=>(match T.I el with
   | some (z,sz,_)=>(match Nat.beq (A1 (sM z)) sz,Nat.ble 1 sz,Nat.ble (Nat.mul len sz) 16777216,buildRow sz (Hp len (sM z)) ps with
     | true,true,true,some cs=> .bsl el len ps cs
     | _,_,_,_=> .bad)
   | none=> .bad)
  | _,_=> .bad
 | .call c=>match Lq c with
  | .builtin .append=>(match (mG (Ly c)),evs e (mG (JZ c))with
   | [t,H],some [.v s,.v x]=>(match Nat.beq t H,T.U t with
     | true,some (.slice el)=>(match T.I el with
      | some (z,sz,by_)=>(match Nat.beq (A1 (sM z)) sz,Nat.ble 1 sz with
       | true,true=> .app el sz by_ s x
       | _,_=> .bad)
      | none=> .bad)
     | _,_=> .bad)
   | _,_=> .bad)
  | .builtin .clear=>(match (mG (Ly c)),evs e (mG (JZ c))with
   | [t],some [.v s]=>(match T.U t with
    | some (.slice el)=>(match is1 (T.I el)with
     | some (z,_)=>(match aB z with
      | true=> .clr z s
      | false=> .bad)
     | _=> .bad)
    | _=> .bad)
   | _,_=> .bad)
  | .value (.tmp t)=>(match look e t,evs e (mG (JZ c))with
   | some (.v val),some xs=> .dyn val xs (E9 T (L7 o))
   | _,_=> .bad)
  | .value (.func f)=>(match T.F f,evs e (mG (JZ c))with
    | true,some xs=> .call f xs (E9 T (L7 o))
    | _,_=> .bad)
  | _=> .pure (pureR T e (I3 o))
 | _=> .pure (pureR T e (I3 o))
def Ax (T:dJ)(e:Env)(o:Oper)(w:World)(k:SV->PV):Prop:=runOR T (opR T e o) w k
attribute [go_sem] KB kW CellsAt wP Option.getD_some Option.getD_none I7
section
variable {T:dJ} {N:Nat} {e:Env} {o:Oper} {a:Act} {w:World} {k:SV->PV}
def cK (P:Program)(o:Oper)(a:Act)(w:World)(k:SV->PV):Prop:=
 ∀(next:Act->PV) (Q:Exit->Act->PV),(∀y w',k y w'->next (a.put o.dst y.val) w')->o.wp P a w next Q
theorem cK.value {P:Program}{v:Value}{y:SV}{w':World}(h:(execOp a.eval o).run P w= .ok (.value v) w')(G:v=y.val)(H:k y w'):cK P o a w k:=by
 intro next Q J;unfold Oper.wp;rw [h,G];exact J _ _ H
theorem cK.skip {P:Program}{w':World}(h:(execOp a.eval o).run P w= .ok .skip w')(G:k .un w'):cK P o a w k:=by
 intro next Q H;unfold Oper.wp;rw [h];exact H _ _ G
theorem gk (h:aD N e a):∀{l:List Operand} {xs:List SV},evs e l=some xs->l.map a.eval=SV.aO xs
 | [],xs,G=>by cases G;rfl
 | x::l,xs,G=>by
  unfold evs at G;split at G
  ·rename_i y V H J;cases G;simp [SV.aO,aG h H,gk h J]
  ·cases G
theorem js:∀{xs G:List SV},SV.aO G=SV.aO xs->valOf xs=(kW G).val
 | [],[],_=>rfl
 | [],_::_,h=>by simp [SV.aO]at h
 | _::_,[],h=>by simp [SV.aO]at h
 | [x],[y],h=>by simp [SV.aO]at h;simp [valOf,kW,h]
 | [x],_::_::_,h=>by simp [SV.aO]at h
 | _::_::_,[y],h=>by simp [SV.aO]at h
 | x::H::xs,y::J::G,h=>by simp only [valOf,kW,SV.val];rw [h]
theorem Dy {f:Nat}{c:Call}{xs:List SV}{L:List Kd}(V:aD N e a)(ho:o.op= .call c)(hc:c.callee= .value (.func f))(hf:T.fn f=true)(hx:evs e c.args.toList=some xs)
  (h:Calls T.P f (SV.aO xs).toArray w (aw L (Cur.mk L λZ w'=>k (kW Z) w'))):cK T.P o a w k:=by
 intro next Q hn;obtain⟨g,hg,hb,W⟩:=T.fn_ok f hf;have G:c.args.map a.eval=(SV.aO xs).toArray:=by
  apply NO.1;rw [NG,gk V hx]
 have H:(execOp a.eval o).run T.P w= .ok (.enter f (SV.aO xs).toArray) w:=by
  simp only [execOp,ho,resolve,hc,Act.eval,G,Deferred.ofValue,ME,MF,Ms,invoke,callFunc,run_program,hg,hb,W];simp
 unfold Oper.wp;rw [H,Oper.upon_enter];refine Calls.mono h λe' w' hr=>?_
 obtain⟨Z,rfl,J,_⟩:=kH.get _ _ _ _ _ hr;obtain⟨zs,hz,hk⟩:=Cur.Bv _ _ _ _ J;have :=hn _ _ hk;simpa [js hz]using this
end
section
variable {T:dJ} {N:Nat} {e:Env} {o:Oper} {a:Act} {w:World} {k:SV->PV}
theorem bk {T:dJ}{t:Nat}{d:TypeDesc}(h:T.und t=some d)(w:World):(underlying t).run T.P w= .ok d w:=OZ (T.und_ok _ _ h) w
theorem bw {T:dJ}{t:Nat}{z:Value}{s b:Nat}(h:T.inf t=some (z,s,b))(w:World):
  (sizeOf t).run T.P w= .ok s w/\(zeroValue t).run T.P w= .ok z w:=by
 obtain⟨i,hi,G,H,hb⟩:=T.inf_ok _ _ _ _ h;constructor
 ·simp [sizeOf,typeInfo,hi,H]
 ·simp [zeroValue,typeInfo,hi,G]
theorem nT {t:Nat}(h:single (T.und t)=true)(w:World):(isAgg t).run T.P w= .ok false w:=by
 cases hu:T.und t with
 | none=>rw [hu]at h;cases h
 | some d=>
  unfold isAgg;rw [ME,bk hu,Ms];rw [hu]at h;cases d<;>first | (cases h;done) | simp
def bZ (P:Program)(o:Oper)(a:Act)(k:SV->Prop):Prop:=∃y,k y/\∀w,(execOp a.eval o).run P w= .ok (.value y.val) w
theorem bZ.mk {P:Program}{k:SV->Prop}(y:SV)(G:k y)(h:∀w,(execOp a.eval o).run P w= .ok (.value y.val) w):bZ P o a k:=⟨y,G,h⟩
theorem vM {k:SV->Prop}{x:Operand}(H:aD N e a)(G:o.op= .move x\/o.op= .assign x){y:SV}(J:ev e x=some y)(h:k y):bZ T.P o a k:=by
 refine bZ.mk y h λw=>?_
 rw [<-aG H J];rcases G with G | G<;>simp [execOp,G]
theorem vG {k:SV->Prop}{c x y:Operand}{b:Bool}{z:SV}(G:aD N e a)(H:o.op= .pick c x y)(J:a.eval c= .bool b)
  (V:ev e (if b then x else y)=some z) (h:k z):bZ T.P o a k:=by
 refine bZ.mk z h λw=>?_
 rw [<-aG G V];simp only [execOp,H,J,asBool,ME,MF,Ms];cases b<;>simp
theorem dt {k:SV->Prop}{op:BinOp}{t V:Nat}{x y:Operand}{p q z:SV}(G:aD N e a)(W:o.op= .binOp op t x y V)(J:ev e x=some p)(Z:ev e y=some q)
  (H:∀b:Value,(match p.val,b with | .nilIface,.nilIface=>false | .agg _,.agg _=>false | _,_=>true)=true)
  (hr:∀w,(binOp op t p.val q.val).run T.P w= .ok z.val w) (h:k z):bZ T.P o a k:=by
 refine bZ.mk z h λw=>C0 W (eqGuard_plain ?_) ?_
 ·rw [aG G J];exact H _
 ·rw [aG G J,aG G Z];exact hr w
theorem Bi {op:BinOp}{p q z:SV}(h:binT op p q=some z):∀b:Value,(match p.val,b with | .nilIface,.nilIface=>false | .agg _,.agg _=>false | _,_=>true)=true:=by
 refine vI p ?_ ?_ ?_ ?_<;>rintro y rfl<;>(unfold binT at h;split at h<;>simp_all)
theorem BE {op:BinOp}{p q z:SV}{P:Prop}(h:binP op p q=some (P,z)):∀b:Value,(match p.val,b with | .nilIface,.nilIface=>false | .agg _,.agg _=>false | _,_=>true)=true:=by
 refine vI p ?_ ?_ ?_ ?_<;>rintro y rfl<;>(unfold binP at h;split at h<;>simp_all)
theorem ox {x:SV}{b:Bool}(h:Ld x=some b):x.val= .bool b:=by
 cases x<;>simp [Ld]at h<;>subst h<;>rfl
theorem CM {x:SV}{n:Int}(h:Lk x=some n):∃kd,x.val= .int kd n:=by
 cases x<;>simp [Lk]at h<;>subst h<;>exact⟨_,rfl⟩
theorem vf {x:SV}{b:Bool}(h:Ld x=some b):∀b:Value,(match x.val,b with | .nilIface,.nilIface=>false | .agg _,.agg _=>false | _,_=>true)=true:=by
 intro c;rw [ox h]
theorem rF {t:Nat}(G:T.und t=some .bool)(p q:Bool):(binOp .eql t (.bool p) (.bool q)).run T.P w= .ok (.bool (p==q)) w/\(binOp .neq t (.bool p) (.bool q)).run T.P w= .ok (.bool (!(p==q))) w:=by
 have h:(Op.equal t (.bool p) (.bool q)).run T.P w= .ok (p==q) w:=by
  show(Op.equalIn Op.maxDepth t _ _).run T.P w=_;have:Op.maxDepth=(Op.maxDepth - 1)+1:=rfl;rw [this];simp only [Op.equalIn,ME,bk G,Ms,MF]
 constructor<;>simp only [binOp,ME,h,Ms,MF]
theorem Ii {x y:SV}(h:Kg x=some y):(Op.unary .not x.val).run T.P w= .ok y.val w:=by
 cases x<;>simp [Kg]at h<;>subst h<;>rfl
theorem D1 {n:Int}(G:0<=n)(h:n< 128):Utf8.encode n=ax [UInt8.ofNat n.toNat]:=by
 obtain⟨m,rfl⟩:=Int.eq_ofNat_of_zero_le G;have hm:m< 128:=by omega
 clear h G;revert m;decide+kernel
theorem IU {t:Nat}{l:aF}{n:Int}(H:T.und t=some .string)(J:0<=n)(W:n< l.length):(Instr.index t (.string (ax l)) (.int .i64 n)).run T.P w= .ok (.int .u8 (bt l n.toNat).toNat) w:=by
 have G:n.toNat< l.length:=by omega
 have V:(ax l)[n.toNat]?=some (bt l n.toNat):=by
  rw [getElem?_pos (ax l) n.toNat (by rw [fA];exact G)]
  congr 1
  show l.toArray[n.toNat]'_=_;simp only [bt,List.getD,Mo G,Option.getD_some];rfl
 simp only [Instr.index,asIntOf,ME,MF,Ms,bk H,MZ J,V]
theorem Dt {x:Int}{y:Nat}{code:BoundsCode}(G:0<=x)(H:x<=y):(Instr.sliceBound (.int .i64 x) y code).run T.P w= .ok x.toNat w:=by
 simp only [Instr.sliceBound,asIntOf,ME,MF,Ms,MZ (And.intro G H)]
def mL (x:Option Int):Option Value:=x.map (Value.int .i64)
theorem tD {isS:Bool}{len cap:Nat}{lo hi:Option Int}(G:0<=lo.getD 0)(J:lo.getD 0<=hi.getD len)(H:hi.getD len<=cap):
  (Instr.sliceBounds isS len cap (mL lo) (mL hi) none).run T.P w= .ok ((lo.getD 0).toNat,(hi.getD len).toNat,cap) w:=by
 have hb:∀(x:Int) (y:Nat) (c:BoundsCode),0<=x->x<=y->(Instr.sliceBound (.int .i64 x) y c).run T.P w= .ok x.toNat w:=λx y c a b=>Dt a b
 cases lo<;>cases hi<;>simp only [mL,PG,N8,Option.getD_none,Option.getD_some]at*
 ·simp [Instr.sliceBounds]
 ·simp [Instr.sliceBounds,hb _ _ _ (by omega) H]
 ·simp [Instr.sliceBounds,hb _ _ _ G J]
 ·rename_i x y;simp [Instr.sliceBounds,hb _ _ _ (by omega:0<=y) H,hb x y.toNat _ G (by omega)]
theorem xO {t:Nat}{l:aF}{lo hi:Option Int}(G:T.und t=some .string)(H:0<=lo.getD 0)(J:lo.getD 0<=hi.getD l.length)(V:hi.getD l.length<=l.length):
  (Instr.sliceAt t (.string (ax l)) (mL lo) (mL hi) none).run T.P w= .ok (.string (ax ((l.take (hi.getD l.length).toNat).drop (lo.getD 0).toNat))) w:=by
 simp only [Instr.sliceAt,Instr.slice,ME,bk G,Ms,Option.isSome_none,Ot,Pk,fA,tD H J V,MF,yE]
theorem qp {t el sz len cap b:Nat}{z:Value}{G:Option Addr}{lo hi:Option Int}(J:T.und t=some (.slice el))(H:T.inf el=some (z,sz,b))(V:0<=lo.getD 0)(W:lo.getD 0<=hi.getD len)(Z:hi.getD len<=cap):
  (Instr.sliceAt t (.slice G len cap) (mL lo) (mL hi) none).run T.P w=
   .ok (.slice (if cap=(lo.getD 0).toNat then G else G.map (·.add ((lo.getD 0).toNat* sz))) ((hi.getD len).toNat - (lo.getD 0).toNat) (cap - (lo.getD 0).toNat)) w:=by
 simp only [Instr.sliceAt,Instr.slice,ME,bk J,Ms,tD V W Z,MF,(bw H w).1]
theorem add_plain (b off n:Nat):(⟨b,off,none⟩:Addr).add n=⟨b,off+n,none⟩:=by
 unfold Addr.add;split
 ·rename_i h;subst h;rfl
 ·rfl
theorem Ei {s b off f sz G:Nat}{fs:Array Field}{fd:Field}{z:Value}(H:T.und s=some (.struct fs))(J:fs[f]?=some fd)(hi:T.inf fd.type=some (z,sz,G))(V:sz≠0):
  (Instr.fieldAt s (.pointer (some ⟨b,off,none⟩)) f).run T.P w= .ok (.pointer (some ⟨b,off+fd.offset,none⟩)) w:=by
 simp only [Instr.fieldAt,ME,bk H,Ms,J,Instr.sureAddr,MF,fieldPlace,(bw hi w).1,MJ V,add_plain]
theorem DK {t el sz G b off len cap:Nat}{z:Value}{kd:IntKind}{n:Int}(H:T.und t=some (.slice el))(hi:T.inf el=some (z,sz,G))(J:0<=n)(V:n< len):
  (Instr.indexAt t (.slice (some ⟨b,off,none⟩) len cap) (.int kd n)).run T.P w= .ok (.pointer (some ⟨b,off+n.toNat* sz,none⟩)) w:=by
 simp only [Instr.indexAt,asIntOf,ME,MF,Ms,bk H,MZ (And.intro J V),(bw hi w).1,add_plain]
theorem D3 {t el sz G b off len:Nat}{z:Value}{kd:IntKind}{n:Int}(H:T.und t=some (.array len el))(hi:T.inf el=some (z,sz,G))(J:0<=n)(V:n< len):
  (Instr.indexAt t (.pointer (some ⟨b,off,none⟩)) (.int kd n)).run T.P w= .ok (.pointer (some ⟨b,off+n.toNat* sz,none⟩)) w:=by
 simp only [Instr.indexAt,asIntOf,ME,MF,Ms,bk H,Instr.sureAddr,MZ (And.intro J V),(bw hi w).1,add_plain]
theorem pk {t b off:Nat}{v:Value}(G:single (T.und t)=true)(H:w.cell? ⟨b,off,none⟩=some v):
  (Instr.loadAt t (.pointer (some ⟨b,off,none⟩))).run T.P w= .ok v w:=by
 simp only [Instr.loadAt,Instr.sureAddr,ME,MF,Ms,loadVar,nT G];simp [load,Sem.run,H]
theorem pU {b off:Nat}:∀(n i:Nat) (cs:List Value) (acc:Array Value),cs.length=i+n->(∀j,j< i+n->w.cell? ⟨b,off+j,none⟩=cs[j]?)->acc.toList=cs.take i->
  (loadCellsFrom ⟨b,off,none⟩ i n acc).run T.P w= .ok cs.toArray w
 | 0,i,cs,acc,J,G,ha=>by
  simp only [loadCellsFrom,MF];rw [Pf (by omega)]at ha;rw [<-ha]
 | n+1,i,cs,acc,J,G,ha=>by
  have hi:i< cs.length:=by omega
  have H:=G i (by omega);rw [Mo hi]at H;have:(load ((⟨b,off,none⟩:Addr).add i)).run T.P w= .ok cs[i] w:=by
   rw [add_plain];simp [load,Sem.run,H]
  simp only [loadCellsFrom,ME,this,Ms];exact pU n (i+1) cs _ (by omega) (λj V=>G j (by omega)) (by rw [Pr,ha,Mq hi])
theorem iE {t:Nat}(h:xC (T.und t)=true)(w:World):(isAgg t).run T.P w= .ok true w:=by
 cases hu:T.und t with
 | none=>rw [hu]at h;cases h
 | some d=>
  unfold isAgg;rw [ME,bk hu,Ms];rw [hu]at h;cases d<;>first | (cases h;done) | simp
theorem iz {t b off n G:Nat}{z:Value}{cs:List Value}(H:(isAgg t).run T.P w= .ok true w)(hi:T.inf t=some (z,n,G))(V:cs.length=n)
  (J:∀j,j< n->w.cell? ⟨b,off+j,none⟩=cs[j]?):(Instr.loadAt t (.pointer (some ⟨b,off,none⟩))).run T.P w= .ok (.agg cs.toArray) w:=by
 simp only [Instr.loadAt,Instr.sureAddr,ME,MF,Ms,loadVar,H,(bw hi w).1,Ol,loadCells];rw [pU n 0 cs #[] (by omega) (λj W=>J j (by omega)) (by simp)];rfl
theorem AB {t b off V:Nat}{z u v:Value}(hi:T.inf t=some (z,1,V))(J:aB v=true)(W:w.cell? ⟨b,off,none⟩=some u)(Z:w.frozen? ⟨b,off,none⟩=false):
  (Instr.storeAt t (.pointer (some ⟨b,off,none⟩)) v).run T.P w= .ok () (w.setCell ⟨b,off,none⟩ v):=by
 have G:v.cells=#[v]:=by cases v<;>first | rfl | (cases J;done)
 have H:(store (⟨b,off,none⟩:Addr) v).run T.P w= .ok () (w.setCell ⟨b,off,none⟩ v):=by
  cases v<;>first | (cases J;done) | (simp [store,Sem.run,W,Z])
 simp only [Instr.storeAt,Instr.sureAddr,ME,MF,Ms,storeVar,(bw hi w).1,G];simp only [List.size_toArray,Mm,MB,ne_eq,Pq,Pk,storeCells,ME,add_plain,OQ,H,Ms,MF]
theorem D4 {el:Nat}{z:Value}{s b:Nat}(hi:T.inf el=some (z,s,b))(v:Value):
  (Instr.alloc el true (.tuple #[])).run T.P w= .ok (.pointer (some ⟨w.heap.size,0,none⟩)) (w.alloc (.cells z.cells el)):=by
 simp only [Instr.alloc,ME,(bw hi w).2,Ms,newVar,newRow,newObj,Sem.run,MF,World.alloc]
theorem xA {el:Nat}(v:Value):(Instr.box el v).run T.P w= .ok (.pointer (some ⟨w.heap.size,0,none⟩)) (w.alloc (.cells v.cells el)):=by
 simp only [Instr.box,ME,newVar,newRow,newObj,Sem.run,Ms,MF,World.alloc]
theorem Gd {t ty:Nat}{l:aF}(G:T.und t=some .string):(Builtin.len_ #[t] ty #[.string (ax l)]).run T.P w= .ok (.int .i64 l.length) w:=by
 simp [Builtin.len_,bk G,goInt,fA]
theorem Fc {t ty el n cap:Nat}{G:Option Addr}(H:T.und t=some (.slice el)):(Builtin.len_ #[t] ty #[.slice G n cap]).run T.P w= .ok (.int .i64 n) w:=by
 simp [Builtin.len_,bk H,goInt]
end
section
variable {T:dJ} {N:Nat} {e:Env} {o:Oper} {a:Act} {w:World} {k:SV->PV}
theorem okC.get {z:SV}{p:Prop}(h:okC z p):z.val.cells=(cellsOf z).toArray/\p:=by
 cases z with
 | v x=>obtain⟨G,H⟩:=h;refine⟨?_,H⟩;cases x<;>first | rfl | (cases G;done)
 | tup xs=>exact h.elim
 | un=>exact h.elim
 | _=>exact⟨rfl,h⟩
theorem okAllC.get:∀{ps:List (Nat×SV)} {p:Prop},okAllC ps p->(∀x,x∈ps->x.2.val.cells=(cellsOf x.2).toArray)/\p
 | [],p,h=>⟨λx G=>(by cases G),h⟩
 | q::ps,p,h=>by
  obtain⟨H,J⟩:=okC.get h;obtain⟨V,h4⟩:=okAllC.get J;refine⟨λx G=>?_,h4⟩;cases G with
  | head=>exact H
  | tail _ G=>exact V x G
theorem yV (z:Value):(svOf z).val=z:=by
 unfold svOf;split
 ·rfl
 ·split
  ·rename_i G;exact(Nz (Value.int .u8) (Fj G)).symm
  ·rfl
 ·split
  ·rename_i G;exact(Nz (Value.int .u32) (C8 G)).symm
  ·rfl
 ·rename_i s;show Value.string (ax s.data.toList)=_;rw [<-J']
 ·rfl
 ·rfl
 ·rfl
theorem CellsAt.get {b:Nat}:∀{off:Nat} {xs:List SV},CellsAt w b off xs->∀j,j< xs.length->w.cell? ⟨b,off+j,none⟩=(SV.aO xs)[j]?
 | off,[],h,j,G=>by simp at G
 | off,x::xs,h,0,G=>by simpa [SV.aO]using h.1
 | off,x::xs,h,j+1,G=>by
  have :=CellsAt.get h.2 j (by simpa using G);rw [show off+(j+1)=off+1+j by omega,this];simp [SV.aO]
theorem fY:∀(l:List SV),(SV.aO l).length=l.length
 | []=>rfl
 | _::l=>by simp [SV.aO,fY l]
theorem ExL.get:∀{L:List Kd} {K:List SV->Prop},ExL L K->∃xs,xs.length=L.length/\K xs
 | [],K,h=>⟨[],rfl,h⟩
 | k::L,K,⟨t,h⟩=>by
  obtain⟨xs,G,H⟩:=ExL.get h;exact⟨k.sv t::xs,by simp [G],H⟩
theorem qO {b off G:Nat}{v:Value}(h:off≠G):(w.setCell ⟨b,off,none⟩ v).cell? ⟨b,G,none⟩=w.cell? ⟨b,G,none⟩:=by
 unfold World.cell? World.setCell;simp only [On,Ol];cases J:w.heap[b]? with
 | none=>rfl
 | some H=>
  cases H<;>simp [Array.getElem?_setIfInBounds,h]
theorem sO {b off:Nat}{v:Value}(x:Addr):(w.setCell ⟨b,off,none⟩ v).frozen? x=w.frozen? x:=MG _ _ _ _
theorem m7 {b:Nat}:∀(cs:List Value) (off i:Nat) (w:World),cs.all aB=true->(∀j,j< cs.length->(∃u,w.cell? ⟨b,off+i+j,none⟩=some u)/\w.frozen? ⟨b,off+i+j,none⟩=false)->
  (storeCells (⟨b,off,none⟩:Addr) cs i).run T.P w= .ok () (World.setCells w b (off+i) cs)
 | [],off,i,w,_,_=>rfl
 | v::cs,off,i,w,G,J=>by
  simp only [ND,Mp]at G;obtain⟨⟨u,hu⟩,V⟩:=J 0 (by simp);simp only [OQ]at hu V;have H:(store (⟨b,off+i,none⟩:Addr) v).run T.P w= .ok () (w.setCell ⟨b,off+i,none⟩ v):=by
   have :=G.1;cases v<;>first | (cases this;done) | (simp [store,Sem.run,hu,V])
  simp only [storeCells,ME,add_plain,H,Ms,World.setCells];rw [m7 cs off (i+1) _ G.2 λj W=>?_]
  ·rfl
  ·have :=J (j+1) (by simpa using W);rw [show off+i+(j+1)=off+(i+1)+j by omega]at this;rw [qO (by omega),sO];exact this
theorem za {t b off n H:Nat}{z:Value}{cs:List Value}(hi:T.inf t=some (z,n,H))(G:cs.length=n)(J:cs.all aB=true)
  (V:∀j,j< n->(∃u,w.cell? ⟨b,off+j,none⟩=some u)/\w.frozen? ⟨b,off+j,none⟩=false):
  (Instr.storeAt t (.pointer (some ⟨b,off,none⟩)) (.agg cs.toArray)).run T.P w= .ok () (World.setCells w b off cs):=by
 have W:(Value.agg cs.toArray).cells=cs.toArray:=rfl;simp only [Instr.storeAt,Instr.sureAddr,ME,MF,Ms,storeVar,(bw hi w).1,W];rw [MJ (by simp [G])];exact m7 cs off 0 w J (by simpa [G]using V)
theorem tj {x:SV}:∀(l:List SV) (j:Nat),SV.aO (l.set j x)=(SV.aO l).set j x.val
 | [],_=>rfl
 | y::l,0=>rfl
 | y::l,j+1=>by simp [SV.aO,tj l j]
theorem CE {place:Nat->Option (Nat×Nat)}{fs:Array Field}(hp:∀(i:Nat) (fd:Field) sz z b,fs[i]?=some fd->T.inf fd.type=some (z,sz,b)->place i=some (fd.offset,sz)):
  ∀(ps:List (Nat×SV)) (zs xs:List SV),(∀x,x∈ps->x.2.val.cells=(cellsOf x.2).toArray)->buildAg T fs zs ps=some xs->
   Instr.fill place (SV.aO zs).toArray (ps.map λp=>(p.1,p.2.val))=some (SV.aO xs).toArray
 | [],zs,xs,_,h=>by cases h;rfl
 | (i,x)::r,zs,xs,H,h=>by
  unfold buildAg at h;split at h
  ·rename_i fd G;split at h
   ·rename_i z b hi hc;split at h
    ·rename_i α J;rw [pw,dU]at G;obtain⟨V,rfl⟩:=xv J;have J:fd.offset< zs.length:=V;have G:fs[i]?=some fd:=G;have hi:T.inf fd.type=some (z,1,b):=nE hi;have ih:=CE hp r _ xs (λy hy=>H y (MD _ hy)) h;have Z:x.val.cells=#[x.val]:=by
      rw [H (i,x) (Nc)];cases x<;>first | rfl | (cases hc;done)
     simp only [MV,Instr.fill,hp i fd 1 z b G hi,Z];rw [MJ (by simp [fY];omega)];have W:(#[x.val].zipIdx.foldl (λcs (c,j)=>cs.setIfInBounds (fd.offset+j) c) (SV.aO zs).toArray)=(SV.aO (zs.set fd.offset x)).toArray:=by
      rw [tj];simp
     rw [W];exact ih
    ·cases h
   ·cases h
  ·cases h
theorem ta (G:aD N e a):∀{l:List (Nat×Operand)} {ps:List (Nat×SV)},evp e l=some ps->l.map (λp=>(p.1,a.eval p.2))=ps.map (λp=>(p.1,p.2.val))
 | [],ps,h=>by cases h;rfl
 | (i,x)::l,ps,h=>by
  unfold evp at h;split at h
  ·rename_i y V H J;cases h;simp only [MV,aG G H,ta G J]
  ·cases h
theorem AO {fs:Array Field}{w:World}(H:∀f∈fs.toList,∃z s b,T.inf f.type=some (z,s,b)):
  ∃pl:Array (Nat×Nat),(fs.mapM (m:=Sem) λf=>do pure (f.offset,<-sizeOf f.type)).run T.P w= .ok pl w/\
   ∀(i:Nat) (fd:Field) sz z b,fs[i]?=some fd->T.inf fd.type=some (z,sz,b)->pl[i]?=some (fd.offset,sz):=by
 obtain⟨l⟩:=fs;have key:∀l:List Field,(∀f∈l,∃z s b,T.inf f.type=some (z,s,b))->∃pl:List (Nat×Nat),(l.mapM (m:=Sem) λf=>do pure (f.offset,<-sizeOf f.type)).run T.P w= .ok pl w/\
   ∀(i:Nat) (fd:Field) sz z b,l[i]?=some fd->T.inf fd.type=some (z,sz,b)->pl[i]?=some (fd.offset,sz):=by
  intro l
  induction l with
  | nil=>intro _;exact⟨[],by simp,λi fd sz z b h=>by simp at h⟩
  | cons f l Z=>
   intro h;obtain⟨z,s,b,W⟩:=h f (Nc);obtain⟨pl,J,V⟩:=Z λg hg=>h g (MD _ hg)
   refine⟨(f.offset,s)::pl,?_,?_⟩
   ·simp only [List.mapM_cons,ME,(bw W w).1,Ms,MF,J]
   ·intro i fd sz z' b' hi G;cases i with
    | zero=>simp at hi;subst hi;rw [W]at G;cases G;rfl
    | succ i=>simpa using V i fd sz z' b' (by simpa using hi) G
 obtain⟨pl,J,V⟩:=key l H;refine⟨pl.toArray,?_,by simpa using V⟩;rw [List.mapM_toArray];simp only [Sem.run_map,J];rfl
theorem Dm {t s b:Nat}{fs:Array Field}{zs:Array Value}{ps:List (Nat×SV)}{xs:List SV}{parts:Array (Nat×Value)}(Z:T.und t=some (.struct fs))(hi:T.inf t=some (.agg zs,s,b))
  (H:∀f∈fs.toList,∃z s b,T.inf f.type=some (z,s,b)) (G:parts.toList=ps.map λp=>(p.1,p.2.val)) (J:∀x,x∈ps->x.2.val.cells=(cellsOf x.2).toArray) (hb:buildAg T fs (mapR svOf zs.toList) ps=some xs):
  (Instr.build t parts).run T.P w= .ok (.agg (SV.aO xs).toArray) w:=by
 obtain⟨pl,h1,h2⟩:=AO (w:=w) H;have hz:(SV.aO (mapR svOf zs.toList)).toArray=zs:=by
  have:∀l:List Value,SV.aO (mapR svOf l)=l:=by
   intro l;induction l with
   | nil=>rfl
   | cons v l ih=>simp only [mapR,SV.aO,yV,ih]
  rw [this]
 have W:=CE (place:=(pl[·]?)) h2 ps _ xs J hb;rw [hz]at W;have V:(fs.mapM (m:=Sem) λf=>do let s<-sizeOf f.type;pure (f.offset,s)).run T.P w= .ok pl w:=h1;simp only [Instr.build,ME,(bw hi w).2,Ms,bk Z,Value.cells];rw [V];simp only [Ms,G,W,MF]
theorem Ad:∀(vs:List Value) (k o:Nat) (cur:List Value),o+k+vs.length<=cur.length->
  (vs.zipIdx k).foldl (λcs (p:Value×Nat)=>cs.setIfInBounds (o+p.2) p.1) cur.toArray=(cur.take (o+k)++vs++cur.drop (o+k+vs.length)).toArray
 | [],k,o,cur,h=>by simp
 | v::vs,k,o,cur,h=>by
  simp only [Mm]at h;simp only [List.zipIdx_cons,List.foldl_cons,List.setIfInBounds_toArray];rw [Ad vs (k+1) o _ (by simp;omega)]
  congr 1
  have G:o+k< cur.length:=by omega
  rw [show o+(k+1)=o+k+1 by omega,Mq (by simp;omega),ON (Mu _),List.drop_set_of_lt (by omega)];simp [show o+k+1+vs.length=o+k+(vs.length+1) by omega]
theorem zh {sz:Nat}:∀(ps:List (Nat×SV)) (zs cs:List Value),(∀x,x∈ps->x.2.val.cells=(cellsOf x.2).toArray)->buildRow sz zs ps=some cs->
   Instr.fill (λi=>some (i* sz,sz)) zs.toArray (ps.map λp=>(p.1,p.2.val))=some cs.toArray
 | [],zs,cs,_,h=>by cases h;rfl
 | (i,x)::r,zs,cs,H,h=>by
  unfold buildRow at h;split at h
  ·rename_i V W G;have G:Bl zs (i* sz) (cellsOf x)=some V:=G;obtain⟨h3,rfl⟩:=wX G;have hc:(cellsOf x).length=sz:=yL W;have Z:=zh r _ cs (λy hy=>H y (MD _ hy)) h;have J:=H (i,x) (Nc);simp only at J;simp only [MV,Instr.fill,J];rw [MJ (by simp;omega)];rw [<-Z]
   congr 1
   have :=Ad (cellsOf x) 0 (i* sz) zs (by omega);simp only [OQ]at this;rw [<-this,<-Array.foldl_toList,Array.toList_zipIdx]
  ·cases h
end
section
variable {T:dJ} {N:Nat} {e:Env} {o:Oper} {a:Act} {w:World} {k:SV->PV}
theorem D6 (z:Array Value)(len sz:Nat)(J:z.size=sz)(h0:0< sz):((Array.range (len* sz)).map (z[· % z.size]!))=(List.replicate len z.toList).flatten.toArray:=by
 apply NO.1;simp only [NG,Array.toList_range];apply Pb
 ·simp [J]
 ·intro i V h2;simp only [MM,OJ]at V;have hm:i % z.size< z.size:=Nat.mod_lt _ (by omega);simp only [Pz,List.getElem_range];rw [getElem!_pos z _ hm];have key:∀(len i:Nat) (h:i< len* z.size) (W:i< (List.replicate len z.toList).flatten.length),(List.replicate len z.toList).flatten[i]=z[i % z.size]'(Nat.mod_lt _ (by omega)):=by
   intro len
   induction len with
   | zero=>intro i h;omega
   | succ len Z=>
    intro i h W;simp only [List.replicate_succ,List.flatten_cons];rw [List.getElem_append];split
    ·rename_i G;simp only [Array.length_toList]at G;simp only [Array.getElem_toList]
     congr 1
     exact(Nat.mod_eq_of_lt G).symm
    ·rename_i H;simp only [Array.length_toList]at H;simp only [Array.length_toList];rw [Z (i - z.size) (by rw [Nat.add_mul]at h;omega)]
     congr 1
     rw [<-Nat.mod_eq_sub_mod (by omega)]
  exact(key len i (by rw [J];exact V) _).symm
theorem BA {t el sz len b:Nat}{z:Value}{ps:List (Nat×SV)}{cs:List Value}{parts:Array (Nat×Value)}(Z:T.und t=some (.slice el))(hi:T.inf el=some (z,sz,b))(hz:z.cells.size=sz)(W:0< sz)(hl:len* sz<=16777216)
  (G:parts.toList=ps.map λp=>(p.1,p.2.val)) (H:∀x,x∈ps->x.2.val.cells=(cellsOf x.2).toArray) (hb:buildRow sz (List.replicate len z.cells.toList).flatten ps=some cs):
  (Instr.buildSlice t len parts).run T.P w= .ok (.slice (some ⟨w.heap.size,0,none⟩) len len) (w.alloc (.cells cs.toArray el)):=by
 have J:=zh ps _ cs H hb;simp only [Instr.buildSlice,ME,bk Z,Ms,(bw hi w).1];rw [MJ (by omega)];by_cases V:len* sz=0
 ·have hlen:len=0:=by
   rcases O0 len with h | h
   ·exact h
   ·have :=Nat.mul_pos h W;omega
  subst hlen;simp only [Nat.zero_mul,Ol,MF,Ms,ME];have:((Array.range 0).map ((#[]:Array Value)[· % (#[]:Array Value).size]!))=#[]:=by simp
  simp only [List.replicate_zero,List.flatten_nil]at J;simp only [this,G,J,ME,newRow,newObj,Sem.run,Ms,MF,World.alloc]
 ·simp only [V,Pk,ME,(bw hi w).2,Ms,MF];rw [D6 _ _ _ hz W];simp only [G,J,ME,newRow,newObj,Sem.run,Ms,MF,World.alloc]
theorem rr {t el:Nat}(G:T.und t=some (.pointer el))(q:Option Addr):
  (binOp .eql t (.pointer q) (.pointer none)).run T.P w= .ok (.bool q.isNone) w/\(binOp .neq t (.pointer q) (.pointer none)).run T.P w= .ok (.bool (!q.isNone)) w:=by
 have h:(Op.equal t (.pointer q) (.pointer none)).run T.P w= .ok q.isNone w:=by
  show(Op.equalIn Op.maxDepth t _ _).run T.P w=_;have:Op.maxDepth=(Op.maxDepth - 1)+1:=rfl;rw [this];cases q<;>simp only [Op.equalIn,ME,bk G,Ms,MF]<;>rfl
 constructor<;>simp only [binOp,ME,h,Ms,MF]
theorem yn {src dst el:Nat}{l:aF}(G:T.und src=some .string)(hd:T.und dst=some (.slice el))(he:T.und el=some (.int .u8)):
  ∃cap w',(convert src dst (.string (ax l))).run T.P w= .ok (.slice (some ⟨w.heap.size,0,none⟩) l.length cap) w'/\wB w' el w.heap.size l/\w.grownBy w' none:=by
 have hr:=Go.Lib.run_convert_string_bytes (P:=T.P) w src dst el (ax l) (T.und_ok _ _ G) (T.und_ok _ _ hd) (T.und_ok _ _ he);rw [fA]at hr;refine⟨_,_,hr,⟨_,_,_,Go.Lib.bytesWorld_at_new w el (ax l),?_,?_,Mu _⟩,⟨rfl,rfl,rfl,?_,λj H _=>Go.Lib.bytesWorld_at_old w el (ax l) j H⟩⟩
 ·simp [Go.Lib.bytesCells,dw,ax,List.take_append]
 ·simp [Go.Lib.bytesCells,ax,ByteArray.size]
 ·rw [Go.Lib.bytesWorld_size];omega
theorem uO {b off n c:Nat}{l:aF}(V:l.length=n)(W:∀j x,l[j]?=some x->w.cell? ⟨b,off+j,none⟩=some (.int .u8 x.toNat)):
  (Conv.bytesToString (.slice (some ⟨b,off,none⟩) n c)).run T.P w= .ok (.string (ax l)) w:=by
 have G:(loadCells (⟨b,off,none⟩:Addr) n).run T.P w= .ok (dw l).toArray w:=by
  unfold loadCells;refine pU n 0 (dw l) #[] (by simp [dw,V]) (λj hj=>?_) (by simp);have J:j< l.length:=by omega
  rw [W j l[j] (Mo J)];simp [dw,J]
 have H:∀(l:aF) (s:ByteArray),(l.map λc=>((c.toNat:Int))).foldl (λr n=>r.push (UInt8.ofNat n.toNat)) s=s++ax l:=by
  intro l
  induction l with
  | nil=>intro s;apply ByteArray.ext;simp [ax]
  | cons x l Z=>
   intro s;simp only [MV,List.foldl_cons];rw [Z];apply ByteArray.ext;simp [ax]
 have hm:(dw l)=(l.map λc=>((c.toNat:Int))).map (Value.int .u8):=by simp [dw]
 have :=run_bytesToString (P:=T.P) w ⟨b,off,none⟩ n c (l.map λc=>((c.toNat:Int))) (by rw [G,hm]);rw [this,H]
 congr 2
theorem zT {l:List Value}(h:l.all aB=true):∀u∈l,u.oneCell'=true:=by
 intro u hu;have :=Ou.1 h u hu;cases u<;>first | rfl | (cases this;done)
theorem wq {P:Program}{w:World}(base:Nat)(t ty e:TypeId)(i:TypeInfo)(z:Value)(ht:P.underlying t=some (.slice e))(hi:P.info? e=some i)(hz:i.zero=some z)
  (v:Value) (n:Nat) (xs:List Value) (J:w.ownsRow base e i.size v n xs) (a:Addr) (m c:Nat) (news:List Value) (Z:news.length=m* i.size) (G:∀j u,news[j]?=some u->w.cell? (a.add j)=some u)
  (h1:∀u∈news,u.oneCell'=true) (γ:n+m<=maxLen) (H:(n+m)* i.bytes<=140737488355328) {v':Value} {w':World} (hr:(Builtin.append_ #[t,t] ty #[v,.slice (some a) m c]).run P w= .ok v' w'):
  ∀b,v'.ownBlock=some b->v.ownBlock=some b\/w.heap.size<=b:=by
 have β:n+m<=9223372036854775807:=by simp only [maxLen]at γ;omega
 intro b hb;rcases J.2 with⟨rfl,rfl⟩ | ⟨g,cap,cur,rfl,_,hg,ζ,η,δ,ε⟩
 ·by_cases hm:m=0
  ·subst hm;have hn:news=[]:=MS (by simpa using Z);subst hn;have W:(Builtin.append_ #[t,t] ty #[.slice none 0 0,.slice (some a) 0 c]).run P w= .ok (.slice none 0 0) w:=by
    simp [Builtin.append_,OZ ht,sizeOf,typeInfo,hi,Builtin.lenOf,Builtin.firstCells,loadCells,loadCellsFrom]
   rw [W]at hr;cases hr;cases hb
  ·have W:=run_append_nil (P:=P) w t ty e i z ht hi hz a m c news Z G (by omega) (by omega) (by simp only [MX]at H;omega);rw [W]at hr;cases hr;right;simp only [Value.ownBlock,NP]at hb;omega
 ·by_cases V:n+m<=cap
  ·have α:n* i.size+news.length<=cur.size:=by rw [Z,δ,<-Nat.add_mul];exact Nat.mul_le_mul_right _ V
   have W:=run_append_room (P:=P) w t ty e i ht hi g n cap cur hg a m c news Z G h1 V α;rw [W]at hr;cases hr;left;exact hb
  ·have holds:∀j u,xs[j]?=some u->w.cell? ((⟨g,0,none⟩:Addr).add j)=some u:=J.cells (g:=g) rfl;have W:=run_append_grow (P:=P) w t ty e i z ht hi hz ⟨g,0,none⟩ n cap xs J.1 holds a m c news Z G (by omega) (by omega) (growslice_fits (by omega) H);rw [W]at hr;cases hr;right;simp only [Value.ownBlock,NP]at hb;omega
theorem Bt {t el sz by_:Nat}{z s x:Value}{ty:Nat}(ht:T.und t=some (.slice el))(hi:T.inf el=some (z,sz,by_))(hz:z.cells.size=sz)(h0:0< sz)(h:tM el sz by_ s x w k):
  ∃v w',(Builtin.append_ #[t,t] ty #[s,x]).run T.P w= .ok v w'/\k (.v v) w':=by
 obtain⟨base,n,m,xs,news,G,hb,⟨hl,h1,J⟩,⟨h2,h3⟩,hk⟩:=h;obtain⟨i,H,V,W,Z⟩:=T.inf_ok _ _ _ _ hi;rcases J with⟨rfl,rfl⟩ | ⟨b,off,c,rfl,hc⟩
 ·have hn:news=[]:=MS (by simpa using hl);subst hn;refine⟨s,w,run_append_owned_none (P:=T.P) (w:=w) base t ty el i sz (T.und_ok _ _ ht) H s n xs G,?_⟩;exact hk s w (by simpa using G) ⟨rfl,rfl,rfl,Mu _,λ _ _ _=>rfl⟩ λb hb=> .inl hb
 ·obtain⟨v,w',hr,ho,hg,_⟩:=run_append_own (P:=T.P) w base t ty el i z sz by_ (T.und_ok _ _ ht) H V W Z hz h0 s n xs G ⟨b,off,none⟩ m c news hl
   (λj u hu=>by rw [add_plain];exact hc j u hu) (zT h1) h2 h3 hb
  refine⟨v,w',hr,hk v w' ho hg ?_⟩;subst W Z;exact wq base t ty el i z (T.und_ok _ _ ht) H V s n xs G ⟨b,off,none⟩ m c news hl (λj u hu=>by rw [add_plain];exact hc j u hu) (zT h1) h2 h3 hr
theorem HZ {p q:Int}{ts:Array Nat}{ty:Nat}:(Builtin.max_ ts ty #[.int .i64 p,.int .i64 q]).run T.P w= .ok (.int .i64 (if q> p then q else p)) w:=by
 simp [Builtin.max_,Builtin.max2]
theorem HO {p q:Int}{ts:Array Nat}{ty:Nat}:(Builtin.min_ ts ty #[.int .i64 p,.int .i64 q]).run T.P w= .ok (.int .i64 (if q< p then q else p)) w:=by
 simp [Builtin.min_,Builtin.min2]
theorem GK {p q:aF}{ts:Array Nat}{ty:Nat}:(Builtin.max_ ts ty #[.string (ax p),.string (ax q)]).run T.P w= .ok (.string (ax (if(!Op.bytesLess p q)then p else q))) w:=by
 simp only [Builtin.max_,List.foldlM_cons,List.foldlM_nil,Builtin.max2,Op.stringOp,ME,MF,Ms,asBool,m9];split<;>rfl
theorem Eu {p q:aF}{ts:Array Nat}{ty:Nat}:(Builtin.min_ ts ty #[.string (ax p),.string (ax q)]).run T.P w= .ok (.string (ax (if(Op.bytesLess p q||decide (p=q))then p else q))) w:=by
 simp only [Builtin.min_,List.foldlM_cons,List.foldlM_nil,Builtin.min2,Op.stringOp,ME,MF,Ms,asBool,m9,lS];split<;>rfl
theorem Gw {t:Nat}{c:Call}{val:Value}{xs:List SV}{L:List Kd}{f:Nat}{ca:List Value}(H:aD N e a)(ho:o.op= .call c)(hc:c.callee= .value (.tmp t))(ht:look e t=some (.v val))(hv:val= .func (.func f) #[] ca.toArray)(hf:T.fn f=true)(hx:evs e c.args.toList=some xs)
  (h:Calls T.P f (SV.aO xs++ca).toArray w (aw L (Cur.mk L λys w'=>k (kW ys) w'))):cK T.P o a w k:=by
 intro next Q hn;obtain⟨g,hg,hb,Z⟩:=T.fn_ok f hf;have G:c.args.map a.eval=(SV.aO xs).toArray:=by
  apply NO.1;rw [NG,gk H hx]
 have J:a.eval (.tmp t)= .func (.func f) #[] ca.toArray:=by rw [aG H (x:= .tmp t) ht];exact hv
 have V:(execOp a.eval o).run T.P w= .ok (.enter f (SV.aO xs++ca).toArray) w:=by
  simp only [execOp,ho,resolve,hc,J,G,Deferred.ofValue,ME,MF,Ms,invoke,callFunc,run_program,hg,hb,Z];simp
 unfold Oper.wp;rw [V,Oper.upon_enter];refine Calls.mono h λe' w' hr=>?_
 obtain⟨ys,rfl,W,_⟩:=kH.get _ _ _ _ _ hr;obtain⟨zs,hz,hk⟩:=Cur.Bv _ _ _ _ W;have :=hn _ _ hk;simpa [js hz]using this
end
section
variable {T:dJ} {N:Nat} {e:Env} {o:Oper} {a:Act} {w:World} {k:SV->PV}
theorem iQ {el i:Nat}{cs:Array Value}{v:Value}(h:single (T.und el)=true)(G:cs[i]?=some v):(part el cs i).run T.P w= .ok v w:=by
 unfold part;simp only [ME,nT h,Ms,G];simp
theorem u9 {t el bb d:Nat}{z H J V W:Value}{G b1:Bool}(ht:T.und t=some (.array 2 el))(hi:T.inf el=some (z,1,bb))(Z:single (T.und el)=true)
  (h0:(Op.equalIn d el H V).run T.P w= .ok G w) (h1:(Op.equalIn d el J W).run T.P w= .ok b1 w):(Op.equalIn (d+1) t (.agg #[H,J]) (.agg #[V,W])).run T.P w= .ok (G&&b1) w:=by
 have p0:∀(a b:Value),(part el #[a,b] 0).run T.P w= .ok a w:=λa b=>iQ Z rfl
 have p1:∀(a b:Value),(part el #[a,b] 1).run T.P w= .ok b w:=λa b=>iQ Z rfl
 cases G<;>cases b1<;>simp [Op.equalIn,ME,bk ht,(bw hi w).1,Ms,OG,List.range',p0,p1,h0,h1,MF]
theorem DC {t el H d:Nat}{z J V W Z:Value}(ht:T.und t=some (.array 2 el))(hi:T.inf el=some (z,1,H))(he:T.und el=some (.int .u32)):(Op.eqGuardIn (d+2) t (.agg #[J,V]) (.agg #[W,Z])).run T.P w= .ok false w:=by
 have G:single (T.und el)=true:=by rw [he]
 have p0:∀(a b:Value),(part el #[a,b] 0).run T.P w= .ok a w:=λa b=>iQ G rfl
 have p1:∀(a b:Value),(part el #[a,b] 1).run T.P w= .ok b w:=λa b=>iQ G rfl
 have g:∀x y:Value,(Op.eqGuardIn (d+1) el x y).run T.P w= .ok false w:=λx y=>by
  simp [Op.eqGuardIn,ME,bk he,Ms,MF]
 unfold Op.eqGuardIn;simp [ME,bk ht,(bw hi w).1,Ms,OG,List.range',p0,p1,g,MF]
structure ln (T:dJ)(kt:Nat)(d:TypeDesc):Prop where
 check:∀(w:World) (q:Value) (e:Bool),kh d q->(Instr.checkKey e 10000 kt q).run T.P w= .ok () w
 find:∀(w:World) (q:Value) (l:List MapEntry),kh d q->(∀x∈l,kh d x.key)->((Instr.findKey kt q l).run T.P w= .ok none w/\∀x∈l,x.key≠q)\/∃j x,(Instr.findKey kt q l).run T.P w= .ok (some (j,x.val)) w/\l[j]?=some x/\x.key=q
 stays:∀(w:World) (q:Value),kh d q->(Instr.keyThatStays q q).run T.P w= .ok q w
theorem mP {kt:Nat}{d:TypeDesc}(hd:T.und kt=some d)(H:∀q,kh d q↔MapKept.IsKey d q):ln T kt d:=by
 have G:=T.und_ok _ _ hd;refine⟨λw q e h=>MapKept.run_checkKey G ((H q).1 h) e 9999,λw q l h W=>?_,λw q h=>MapKept.run_keyThatStays ((H q).1 h)⟩;rcases MapKept.findNow_spec ((H q).1 h) l 0 (λx Z=>(H _).1 (W x Z))with⟨J,V⟩ | ⟨j,x,J,V,h3⟩
 ·exact .inl ⟨MapKept.run_findKey G J,V⟩
 ·exact .inr ⟨j,x,by rw [MX]at J;exact MapKept.run_findKey G J,V,h3⟩
theorem Ao {kt e Z:Nat}{z:Value}(hd:T.und kt=some (.array 2 e))(he:T.und e=some .string)(hi:T.inf e=some (z,1,Z)){q:Value}(hq:kh (.array 2 e) q):∀(l:List MapEntry) (i:Nat),(∀x∈l,kh (.array 2 e) x.key)->
  ((Instr.findAsking kt q l i).run T.P w= .ok none w/\∀x∈l,x.key≠q)\/∃j x,(Instr.findAsking kt q l i).run T.P w= .ok (some (i+j,x.val)) w/\l[j]?=some x/\x.key=q
 | [],i,_=> .inl ⟨rfl,by simp⟩
 | x::l,i,h=>by
  obtain⟨_,a,b,rfl⟩:=hq;obtain⟨_,c,d,H⟩:=h x (by simp);have hs:single (T.und e)=true:=by rw [he]
  have es:∀(a b:ByteArray) (n:Nat),(Op.equalIn (n+1) e (.string a) (.string b)).run T.P w= .ok (a==b) w:=λa b n=>by
   simp only [Op.equalIn,ME,bk he,Ms,MF]
  have eq:(Op.equal kt (.agg #[.string a,.string b]) x.key).run T.P w= .ok ((a==c)&&(b==d)) w:=by
   rw [H];exact u9 hd hi hs (es _ _ _) (es _ _ _)
  cases hb:((a==c)&&(b==d))with
  | true=>
   rw [hb]at eq;simp only [Mp,MapKept.bytes_beq]at hb;exact .inr ⟨0,x,by simp only [Instr.findAsking,ME,eq,Ms];rfl,rfl,by rw [H,hb.1,hb.2]⟩
  | false=>
   rw [hb]at eq;have J:x.key≠ .agg #[.string a,.string b]:=λe=>by
    rw [H]at e;simp only [Value.agg.injEq,Array.mk.injEq,Nj,OC,O8]at e;obtain⟨rfl,rfl⟩:=e;have:((c==c)&&(d==d))=true:=by rw [Mp,MapKept.bytes_beq,MapKept.bytes_beq];exact⟨rfl,rfl⟩
    rw [this]at hb;cases hb
   have st:(Instr.findAsking kt (.agg #[.string a,.string b]) (x::l) i).run T.P w=(Instr.findAsking kt (.agg #[.string a,.string b]) l (i+1)).run T.P w:=by
    simp only [Instr.findAsking,ME,eq,Ms];rfl
   rcases Ao hd he hi ⟨rfl,a,b,rfl⟩ l (i+1) (λy G=>h y (by simp [G]))with⟨V,W⟩ | ⟨j,y,V,W,h3⟩
   ·refine .inl ⟨st.trans V,λy G=>?_⟩;rcases MH.1 G with rfl | G
    ·exact J
    ·exact W y G
   ·exact .inr ⟨j+1,y,by rw [st,V,show i+1+j=i+(j+1) by omega],by simpa using W,h3⟩
theorem G0 {kt e J:Nat}{z:Value}(hd:T.und kt=some (.array 2 e))(he:T.und e=some .string)(hi:T.inf e=some (z,1,J)):ln T kt (.array 2 e):=by
 have H:single (T.und e)=true:=by rw [he]
 refine⟨λw q em h=>?_,λw q l h V=>?_,λw q h=>?_⟩
 ·obtain⟨_,a,b,rfl⟩:=h;have W:(part e #[.string a,.string b] 0).run T.P w= .ok (.string a) w:=iQ H rfl;have Z:(part e #[.string a,.string b] 1).run T.P w= .ok (.string b) w:=iQ H rfl;have g:∀a:ByteArray,(Instr.checkKey em 9999 e (.string a)).run T.P w= .ok () w:=λa=>by
   show(Instr.checkKey em (9998+1) e (.string a)).run T.P w=_;unfold Instr.checkKey;simp [ME,bk he,Ms]
  show(Instr.checkKey em (9999+1) kt _).run T.P w=_;unfold Instr.checkKey;simp [ME,bk hd,(bw hi w).1,Ms,OG,List.range',W,Z,g,MF]
 ·have fa:(Instr.findKey kt q l).run T.P w=(Instr.findAsking kt q l 0).run T.P w:=by
   unfold Instr.findKey;simp only [ME,bk hd,Ms];cases l with
   | nil=>rfl
   | cons x l=>rfl
  rw [fa];rcases Ao hd he hi h l 0 V with G | ⟨j,x,G,h2⟩
  ·exact .inl G
  ·exact .inr ⟨j,x,by rw [MX]at G;exact G,h2⟩
 ·obtain⟨_,a,b,rfl⟩:=h;have:Instr.sameBits 10000 (.agg #[.string a,.string b]) (.agg #[.string a,.string b])=true:=by
   show Instr.sameBits (9999+1) _ _=true;simp [Instr.sameBits,MapKept.bytes_beq]
  simp [Instr.keyThatStays,this]
theorem lL {kt:Nat}{d:TypeDesc}{y:SV}(hd:T.und kt=some d)(h:keyOkT T d y=true):ln T kt d/\kh d y.val:=by
 unfold keyOkT at h;split at h
 ·rename_i G;unfold keyOk at G;split at G
  ·exact⟨mP hd λq=>Ps,rfl⟩
  ·exact⟨mP hd λq=>Ps,rfl⟩
  ·exact⟨mP hd λq=>Ps,trivial⟩
  ·cases G
 ·split at h
  ·rename_i H he hi;have H:=jZ H;subst H;exact⟨G0 hd he (nE hi),rfl,_,_,rfl⟩
  ·cases h
 ·cases h
theorem iy {es:List MapEntry}{q:Value}{x:MapEntry}(J:(es.map (·.key)).Nodup)(G:x∈es)(V:x.key=q):dj es q=some x.val:=by
 unfold dj
 induction es with
 | nil=>cases G
 | cons y l W=>
  rw [MV,Nw]at J;by_cases H:y.key=q
  ·rw [List.find?_cons_of_pos (by simpa using H)];rcases MH.1 G with rfl | G
   ·rfl
   ·exfalso;exact J.1 (Nb.2 ⟨x,G,by rw [V,H]⟩)
  ·rw [List.find?_cons_of_neg (by simpa using H)];rcases MH.1 G with rfl | G
   ·exact absurd V H
   ·exact W J.2 G
theorem gR {es:List MapEntry}{q:Value}(h:∀x∈es,x.key≠q):dj es q=none:=by
 unfold dj;rw [List.find?_eq_none.2 λx G=>by simpa using h x G];rfl
theorem oK (es:List MapEntry)(q:Value):(∃x∈es,x.key=q/\dj es q=some x.val)\/((∀x∈es,x.key≠q)/\dj es q=none):=by
 by_cases h:∀x∈es,x.key≠q
 ·exact .inr ⟨h,gR h⟩
 ·left;unfold dj;cases G:es.find? λx=>@decide (x.key=q) (Classical.propDecidable _)with
  | none=>exact absurd (λx H=>by simpa using List.find?_eq_none.1 G x H) h
  | some x=>
   have J:=O4 G;have V:=List.find?_some G;exact⟨x,J,by simpa using V,rfl⟩
theorem Ai {t:Nat}:(Instr.makeMap t none).run T.P w= .ok (.map (some w.heap.size)) (w.alloc (.map #[] 0)):=by
 rfl
theorem Am {d:TypeDesc}{es:Array MapEntry}(h:∀x∈es.toList,kh d x.key)(i:Nat)(f:MapEntry->MapEntry)(G:∀e,es[i]?=some e->(f e).key=e.key):∀x∈(es.modify i f).toList,kh d x.key:=by
 intro x H;have:x.key∈(es.modify i f).toList.map (·.key):=Nb.2 ⟨x,H,rfl⟩;rw [MapKept.modify_keys i f G]at this;obtain⟨y,J,e⟩:=Nb.1 this;rw [<-e];exact h y J
theorem og {r:Nat}{o H:Obj}(hb:w.heap[r]?=some o):cX w {w with heap:=w.heap.setIfInBounds r H} r:=⟨rfl,rfl,rfl,by simp,λb G=>(PA hb).2 b G⟩
theorem tf {r clock:Nat}{d:TypeDesc}{q:Value}(z:Value){m:Value->Option Value}{es:Array MapEntry}(hb:w.heap[r]?=some (.map es clock))(hs:MapKept.Stamped es clock)(W:∀x∈es.toList,kh d x.key)(J:∀q,m q=dj es.toList q)(hq:kh d q)(h2:∀x∈es.toList,x.key≠q):
  IsMap {w with heap:=w.heap.setIfInBounds r (.map (es.push {key:=q,val:=z,born:=clock}) (clock+1))} r d (ef m q z):=by
 have H:=MapKept.stamped_push hs h2 (val:=z);refine⟨_,_,(PA hb).1,H,?_,λp=>?_⟩
 ·intro x G;simp only [Pr,My,MA]at G;rcases G with G | rfl
  ·exact W x G
  ·exact hq
 ·rw [Pr];unfold ef;by_cases V:p=q
  ·rw [MZ V];refine(iy (x:={key:=q,val:=z,born:=clock}) ?_ (by simp) V.symm).symm;have :=H.2.2
   rwa [Pr]at this
  ·rw [MJ V,J p];rcases oK es.toList p with⟨x,Z,k2,k3⟩ | ⟨Z,k2⟩
   ·rw [k3];refine(iy (x:=x) ?_ (by simp [Z]) k2).symm;have :=H.2.2
    rwa [Pr]at this
   ·rw [k2];refine(gR λx G=>?_).symm;rcases My.1 G with G | G
    ·exact Z x G
    ·have:x={key:=q,val:=z,born:=clock}:=by simpa using G
     subst this;exact λe=>V e.symm
theorem qj {es:Array MapEntry}{j:Nat}{x:MapEntry}(G:es[j]?=some x){f g:MapEntry->MapEntry}(h:f x=g x):es.modify j f=es.modify j g:=by
 apply Array.ext_getElem?;intro i;rw [On,On];split
 ·rename_i e;subst e;rw [G];simp [h]
 ·rfl
theorem jJ {r clock j:Nat}{d:TypeDesc}{q:Value}(z:Value){m:Value->Option Value}{es:Array MapEntry}{x:MapEntry}(hb:w.heap[r]?=some (.map es clock))(hs:MapKept.Stamped es clock)(α:∀x∈es.toList,kh d x.key)(Z:∀q,m q=dj es.toList q)(hj:es[j]?=some x)(h3:x.key=q):
  IsMap {w with heap:=w.heap.setIfInBounds r (.map (es.modify j λe=>{e with key:=q,val:=z}) clock)} r d (ef m q z):=by
 have J:∀W,es[j]?=some W->({W with key:=q,val:=z}:MapEntry).key=W.key:=λW H=>by rw [hj]at H;cases H;exact h3.symm
 have V:MapKept.Stamped (es.modify j λe=>{e with key:=q,val:=z}) clock:=MapKept.stamped_modify hs _ _ (λ _ _=>rfl) (λW _ H=>J W H);refine⟨_,_,(PA hb).1,V,Am α _ _ J,λp=>?_⟩;have γ:j< es.size:=(Na.1 hj).1;have G:∀i,(es.modify j λe=>{e with key:=q,val:=z}).toList[i]?=if i=j then some {x with key:=q,val:=z}else es.toList[i]?:=λi=>by
  rw [N0,On];by_cases hi:j=i
  ·subst hi;simp [hj]
  ·simp [hi,PB hi]
 unfold ef;by_cases hp:p=q
 ·rw [MZ hp];refine(iy (x:={x with key:=q,val:=z}) V.2.2 (Ov (i:=j) (by rw [G,MZ rfl])) hp.symm).symm
 ·rw [MJ hp,Z p];rcases oK es.toList p with⟨y,k1,k2,k3⟩ | ⟨k1,k2⟩
  ·rw [k3];obtain⟨i,hi,e⟩:=Np.1 k1;have β:i≠j:=λhh=>by
    subst hh;have:es.toList[i]?=some y:=by rw [Mo hi,e]
    rw [N0,hj]at this;cases this;exact hp (k2.symm.trans h3)
   refine(iy (x:=y) V.2.2 (Ov (i:=i) (by rw [G,MJ β,Mo hi,e])) k2).symm
  ·rw [k2];refine(gR λy hy=>?_).symm;obtain⟨i,hi⟩:=List.mem_iff_getElem?.1 hy;rw [G]at hi;split at hi
   ·cases hi;exact λe=>hp e.symm
   ·exact k1 y (Ov hi)
theorem um {t kt et r:Nat}{d:TypeDesc}{q z:Value}{m:Value->Option Value}(hm:T.und t=some (.map kt et))(hd:ln T kt d)(J:kh d q)(h:IsMap w r d m):
  ∃w',(Instr.mapUpdate t (.map (some r)) q z).run T.P w= .ok () w'/\IsMap w' r d (ef m q z)/\cX w w' r:=by
 obtain⟨es,clock,hb,hs,H,G⟩:=h;have V:=T.und_ok _ _ hm;rcases hd.find w q es.toList J H with⟨W,Z⟩ | ⟨j,x,W,Z,h3⟩
 ·refine⟨_,?_,tf z hb hs H G J Z,og hb⟩;simp [Instr.mapUpdate,OZ V,Oi hb,hd.check w q _ J,W,OS _ hb,Result.andThen]
 ·have hj:es[j]?=some x:=by simpa using Z
  refine⟨_,?_,jJ z hb hs H G hj h3,og hb⟩;simp [Instr.mapUpdate,OZ V,Oi hb,hd.check w q _ J,W,hj,h3,hd.stays w q J,OS _ hb,Result.andThen]
theorem wJ {t kt et r:Nat}{d:TypeDesc}{q:Value}{m:Value->Option Value}{i:Value×Nat×Nat}(hm:T.und t=some (.map kt et))(hd:ln T kt d)(hi:T.inf et=some i)(J:kh d q)(h:IsMap w r d m):
  ∃v0 s w',(Instr.mapEntry t (.map (some r)) q).run T.P w= .ok (.tuple #[v0,.int .i64 s]) w'/\IsMap w' r d (ef m q v0)/\cX w w' r/\Ci w' r s q:=by
 obtain⟨es,clock,hb,hs,H,G⟩:=h;obtain⟨z,sz,bb⟩:=i;have V:=T.und_ok _ _ hm;rcases hd.find w q es.toList J H with⟨Z,h2⟩ | ⟨j,x,Z,h2,h3⟩
 ·refine⟨z,clock,_,?_,tf z hb hs H G J h2,og hb,_,_,es.size,{key:=q,val:=z,born:=clock},(PA hb).1,by simp,rfl,rfl⟩;simp [Instr.mapEntry,OZ V,Oi hb,hd.check w q _ J,Z,(bw hi w).2,OS _ hb,Result.andThen,goInt]
 ·have W:es[j]?=some x:=by simpa using h2
  have e:es.modify j (λe=>{e with key:=q})=es.modify j λe=>{e with key:=q,val:=x.val}:=qj W rfl
  refine⟨x.val,x.born,_,?_,jJ x.val hb hs H G W h3,og hb,_,_,j,{x with key:=q,val:=x.val},(PA hb).1,by simp [On,W],rfl,rfl⟩;simp [Instr.mapEntry,OZ V,Oi hb,hd.check w q _ J,Z,W,h3,hd.stays w q J,OS _ hb,Result.andThen,goInt,e]
theorem rK {t r:Nat}{d:TypeDesc}{q z:Value}{s:Int}{m:Value->Option Value}(h:IsMap w r d m)(he:Ci w r s q):
  ∃w',(Instr.entryStore t (.map (some r)) (.int .i64 s) z).run T.P w= .ok () w'/\IsMap w' r d (ef m q z)/\cX w w' r:=by
 obtain⟨es,clock,hb,Z,α,G⟩:=h;obtain⟨γ,V,j,x,H,W,hk,rfl⟩:=he;rw [hb]at H;cases H;have e:es.modify j (λe=>{e with val:=z})=es.modify j λe=>{e with key:=q,val:=z}:=qj W (by rw [<-hk])
 have β:j< es.size:=(Na.1 W).1;have J:es[j]=x:=(Na.1 W).2;have hf:es.findIdx? (λe=>(e.born:Int)==(x.born:Int))=some j:=by
  rw [Array.findIdx?_eq_some_iff_getElem];refine⟨β,by simp [J],λi hi=>?_⟩;have δ:=Z.2.1;intro hb;have hb:es[i].born=es[j].born:=by
   have:(es[i].born:Int)=x.born:=by simpa using hb
   rw [J];omega
  have h1:(es.toList.map (·.born))[i]'(by simp;omega)=(es.toList.map (·.born))[j]'(by simp;omega):=by simpa using hb
  have :=(List.getElem_inj (((MapKept.stamped_iff es clock).1 Z).2.1)).1 h1;omega
 refine⟨_,?_,jJ z hb Z α G W hk,og hb⟩;simp [Instr.entryStore,Oi hb,asInt,asIntOf,hf,OS _ hb,Result.andThen,e]
theorem BM {t kt et r s sb:Nat}{d:TypeDesc}{q z:Value}{m:Value->Option Value}{ok:Bool}(hm:T.und t=some (.map kt et))(hd:ln T kt d)(hi:T.inf et=some (z,s,sb))(V:kh d q)(h:IsMap w r d m)
  {y:Value} {g:Bool} (hg:(g=true/\m q=some y)\/(g=false/\m q=none/\y=z)):
  (Instr.lookup t (.map (some r)) q ok).run T.P w= .ok (if ok then .tuple #[y,.bool g]else y) w:=by
 obtain⟨es,clock,hb,hs,W,G⟩:=h;have H:=T.und_ok _ _ hm;rcases hd.find w q es.toList V W with⟨Z,h2⟩ | ⟨j,x,Z,h2,h3⟩
 ·have J:m q=none:=by rw [G];exact gR h2
  rcases hg with⟨_,h⟩ | ⟨rfl,_,rfl⟩
  ·rw [J]at h;cases h
  ·simp [Instr.lookup,OZ H,Oi hb,hd.check w q _ V,Z,(bw hi w).2,Result.andThen]
 ·have J:m q=some x.val:=by rw [G];exact iy hs.2.2 (Ov h2) h3
  rcases hg with⟨rfl,h⟩ | ⟨_,h,_⟩
  ·rw [J]at h;cases h;simp [Instr.lookup,OZ H,Oi hb,hd.check w q _ V,Z,Result.andThen]
  ·rw [J]at h;cases h
theorem pK {z:Value}(h:aB z=true):z.cells=#[z]:=by cases z<;>first | rfl | cases h
theorem uS {z:Value}(h:aB z=true)(n:Nat):(Builtin.zeroCells z.cells n).toList=List.replicate n z:=by
 rw [pK h];unfold Builtin.zeroCells;rw [NG,Array.toList_range];refine Pb (by simp) λi G H=>?_
 simp [Nat.mod_one]
theorem GU {z:Value}(h:aB z=true)(n:Nat):madeCells z.cells n=(List.replicate n z).toArray:=by
 rw [pK h];unfold madeCells;apply NO.1;rw [NG,Array.toList_range];refine Pb (by simp) λi G H=>?_
 simp [Nat.mod_one]
theorem uy {t el s:Nat}{n:Int}{z:Value}(H:T.und t=some (.slice el))(hi:T.inf el=some (z,1,s))(J:aB z=true)(Z:s<=256)(G:0<=n)(h1:n<=1099511627776):
  (Instr.makeSlice t (.int .i64 n) (.int .i64 n)).run T.P w= .ok (.slice (some ⟨w.heap.size,0,none⟩) n.toNat n.toNat) (w.alloc (.cells (List.replicate n.toNat z).toArray el)):=by
 obtain⟨i,V,W,h4,h5⟩:=T.inf_ok _ _ _ _ hi;have hb:(i.bytes:Int)* n<=256* n:=Int.mul_le_mul_of_nonneg_right (by omega) G;rw [run_make w t el i z (T.und_ok _ _ H) V W .i64 .i64 n n G (Int.le_refl _) (by omega) (by omega),h4,MW,GU J]
theorem Ef {t el ty n cap b off V:Nat}{z:Value}(H:T.und t=some (.slice el))(hi:T.inf el=some (z,1,V))(J:aB z=true)(W:∀j,j< n->(∃u,w.cell? ⟨b,off+j,none⟩=some u)/\w.frozen? ⟨b,off+j,none⟩=false):
  (Builtin.clear_ #[t] ty #[.slice (some ⟨b,off,none⟩) n cap]).run T.P w= .ok (.tuple #[]) (World.setCells w b off (List.replicate n z)):=by
 have G:=m7 (T:=T) (b:=b) (List.replicate n z) off 0 w (by simp [J]) (by simpa using W);cases n with
 | zero=>simp [Builtin.clear_,bk H,World.setCells]
 | succ n=>
  simp only [Builtin.clear_,Po,NH,ME,bk H,Ms,(bw hi w).2,uS J,G,OQ,MF]
theorem Bm {t el ty cap:Nat}{G:Option Addr}(H:T.und t=some (.slice el)):(Builtin.clear_ #[t] ty #[.slice G 0 cap]).run T.P w= .ok (.tuple #[]) w:=by
 cases G<;>simp [Builtin.clear_,bk H]
theorem AN {t n el s b:Nat}{zs:Array Value}(G:T.und t=some (.array n el))(hi:T.inf t=some (.agg zs,s,b))(he:(T.inf el).isSome=true):(Instr.build t #[]).run T.P w= .ok (.agg zs) w:=by
 obtain⟨⟨z,J,V⟩,H⟩:=Option.isSome_iff_exists.1 he;simp [Instr.build,(bw hi w).2,bk G,(bw H w).1,Instr.fill,Value.cells,Result.andThen]
theorem CK:∀(ps:List (Nat×SV)) (zs xs:List SV),(∀x,x∈ps->x.2.val.cells=(cellsOf x.2).toArray)->buildAr zs ps=some xs->
  Instr.fill (λi=>some (i* 1,1)) (SV.aO zs).toArray (ps.map λp=>(p.1,p.2.val))=some (SV.aO xs).toArray
 | [],zs,xs,_,h=>by cases h;rfl
 | (i,x)::r,zs,xs,G,h=>by
  unfold buildAr at h;split at h
  ·rename_i Z hc H;obtain⟨H,rfl⟩:=xv H;have W:=CK r _ xs (λy hy=>G y (MD _ hy)) h;have V:x.val.cells=#[x.val]:=by
    rw [G (i,x) (Nc)];cases x<;>first | rfl | (cases hc;done)
   simp only [MV,Instr.fill,V,MW];rw [MJ (by simp [fY];omega)];have J:(#[x.val].zipIdx.foldl (λcs (c,j)=>cs.setIfInBounds (i+j) c) (SV.aO zs).toArray)=(SV.aO (zs.set i x)).toArray:=by
    rw [tj];simp
   rw [J];simp only [MW]at W;exact W
  ·cases h
theorem zW {t n el s b V:Nat}{z:Value}{zs:Array Value}{ps:List (Nat×SV)}{xs:List SV}{parts:Array (Nat×Value)}(W:T.und t=some (.array n el))(hi:T.inf t=some (.agg zs,s,b))(he:T.inf el=some (z,1,V))
  (G:parts.toList=ps.map λp=>(p.1,p.2.val)) (H:∀x,x∈ps->x.2.val.cells=(cellsOf x.2).toArray) (hb:buildAr (mapR svOf zs.toList) ps=some xs):
  (Instr.build t parts).run T.P w= .ok (.agg (SV.aO xs).toArray) w:=by
 have Z:(SV.aO (mapR svOf zs.toList)).toArray=zs:=by
  have:∀l:List Value,SV.aO (mapR svOf l)=l:=by
   intro l;induction l with
   | nil=>rfl
   | cons v l ih=>simp only [mapR,SV.aO,yV,ih]
  rw [this]
 have J:=CK ps _ xs H hb;rw [Z]at J;simp only [Instr.build,ME,(bw hi w).2,Ms,bk W,Value.cells,(bw he w).1,G,J,MF]
theorem AV {t el W:Nat}{z:Value}{G H J V:UInt32}(Z:T.und t=some (.array 2 el))(he:T.und el=some (.int .u32))(hi:T.inf el=some (z,1,W)):
  (binOp .neq t (.agg #[.int .u32 G.toNat,.int .u32 H.toNat]) (.agg #[.int .u32 J.toNat,.int .u32 V.toNat])).run T.P w= .ok (.bool (!(decide (G=J)&&decide (H=V)))) w:=by
 have hs:single (T.und el)=true:=by rw [he]
 have es:∀(a b:UInt32) (n:Nat),(Op.equalIn (n+1) el (.int .u32 a.toNat) (.int .u32 b.toNat)).run T.P w= .ok (decide (a=b)) w:=λa b n=>by
  simp only [Op.equalIn,ME,bk he,Ms,Ol,MF,IS]
 have h:(Op.equal t (.agg #[.int .u32 G.toNat,.int .u32 H.toNat]) (.agg #[.int .u32 J.toNat,.int .u32 V.toNat])).run T.P w= .ok (decide (G=J)&&decide (H=V)) w:=
  u9 Z hi hs (es _ _ _) (es _ _ _)
 simp only [binOp,ME,h,Ms,MF]
theorem xw {t el W:Nat}{z G H J V:Value}{Z yo:Operand}(ht:T.und t=some (.array 2 el))(he:T.und el=some (.int .u32))(hi:T.inf el=some (z,1,W)):
  (eqGuard .neq t Z yo (.agg #[G,H]) (.agg #[J,V])).run T.P w= .ok () w:=by
 have g:(Op.eqGuardIn Op.maxDepth t (.agg #[G,H]) (.agg #[J,V])).run T.P w= .ok false w:=DC (d:=Op.maxDepth - 2) ht hi he;unfold eqGuard;cases hb:T.P.eqGuardType T.P.depth t<;>simp [ME,run_program,Ms,hb,g]
theorem vu {t el:Nat}(G:T.und t=some (.slice el))(q:Option Addr)(n c:Nat):
  (binOp .eql t (.slice q n c) (.slice none 0 0)).run T.P w= .ok (.bool q.isNone) w/\(binOp .neq t (.slice q n c) (.slice none 0 0)).run T.P w= .ok (.bool (!q.isNone)) w:=by
 have h:(Op.equal t (.slice q n c) (.slice none 0 0)).run T.P w= .ok q.isNone w:=by
  show(Op.equalIn Op.maxDepth t _ _).run T.P w=_;have:Op.maxDepth=(Op.maxDepth - 1)+1:=rfl;rw [this];cases q<;>simp only [Op.equalIn,ME,bk G,Ms,MF]<;>rfl
 constructor<;>simp only [binOp,ME,h,Ms,MF]
end
theorem pure_run {T:dJ}{N:Nat}{e:Env}{o:Oper}{a:Act}{k:SV->Prop}(G:aD N e a)(h:wY T e o k):bZ T.P o a k:=by
 unfold wY pureR at h;split at h
 ·rename_i x J;split at h
  ·exact vM G (.inl J) (by assumption) h
  ·exact h.elim
 ·rename_i x J;split at h
  ·exact vM G (.inr J) (by assumption) h
  ·exact h.elim
 ·rename_i c x y J;split at h
  ·rename_i hc;split at h
   ·exact vG G J (aG G hc) (by simpa using ‹_›) h
   ·exact h.elim
  ·rename_i hc;split at h
   ·exact vG G J (aG G hc) (by simpa using ‹_›) h
   ·exact h.elim
  ·exact h.elim
 ·rename_i op t x y yt J;split at h
  ·rename_i p q H hy;split at h
   ·rename_i z hz;exact dt G J H hy (Bi hz) (λw=>FX hz) h
   ·split at h
    ·rename_i pr z hz;exact dt G J H hy (BE hz) (λw=>Gu hz h.1) h.2
    ·split at h
     ·rename_i V hb hc _ _;exact dt (z:= .b _) G J H hy (vf hb) (by rw [ox hb,ox hc];exact λw=>(rF V _ _).1) h
     ·rename_i V hb hc _ _;exact dt (z:= .b _) G J H hy (vf hb) (by rw [ox hb,ox hc];exact λw=>(rF V _ _).2) h
     ·rename_i el V _ _ _ _;split at h
      ·obtain⟨q,rfl,h⟩:=h;exact dt (z:= .b _) G J H hy (λ _=>rfl) (λw=>(rr V q).1) h
      ·exact dt (z:= .ff) G J H hy (λ _=>rfl) (λw=>(rr V (some _)).1) h
      ·exact h.elim
     ·rename_i el V _ _ _ _;split at h
      ·obtain⟨q,rfl,h⟩:=h;exact dt (z:= .b _) G J H hy (λ _=>rfl) (λw=>(rr V q).2) h
      ·exact dt (z:= .tt) G J H hy (λ _=>rfl) (λw=>(rr V (some _)).2) h
      ·exact h.elim
     ·rename_i el V _ _ _ _;split at h
      ·split at h
       ·rename_i hn hm;have hn:=jZ hn;have hm:=jZ hm;subst hn;subst hm;obtain⟨q,n,c,rfl,h⟩:=h;exact dt (z:= .b _) G J H hy (λ _=>rfl) (λw=>(vu V q n c).1) h
       ·exact h.elim
      ·exact h.elim
     ·rename_i el V _ _ _ _;split at h
      ·split at h
       ·rename_i hn hm;have hn:=jZ hn;have hm:=jZ hm;subst hn;subst hm;obtain⟨q,n,c,rfl,h⟩:=h;exact dt (z:= .b _) G J H hy (λ _=>rfl) (λw=>(vu V q n c).2) h
       ·exact h.elim
      ·exact h.elim
     ·rename_i el V _ _ _ _;split at h
      ·rename_i hu hi _ _ _ _;have hn:=jZ (by assumption);subst hn;have hi:=nE hi;obtain⟨x0,x1,y0,y1,rfl,rfl,h⟩:=h;refine bZ.mk _ h λw=>C0 J ?_ ?_
       ·rw [aG G H,aG G hy];exact xw V hu hi
       ·rw [aG G H,aG G hy];exact AV V hu hi
      ·exact h.elim
     ·exact h.elim
  ·exact h.elim
 ·rename_i op t x J;split at h
  ·rename_i y hy;split at h
   ·rename_i z hz;refine bZ.mk _ h λw=>?_
    simp only [execOp,J,aG G hy,ME,Ii hz,Ms,MF]
   ·exact h.elim
  ·rename_i n hn;refine bZ.mk _ h.2 λw=>?_
   simp only [execOp,J,aG G hn,SV.val,Op.unary,Op.intArith,ME,Ms,MF,jG h.1]
  ·exact h.elim
 ·rename_i src dst x J;split at h
  ·rename_i k' c hs hd H;refine bZ.mk _ h λw=>?_
   have:IntKind.i64.wrap (c.toNat:Int)=c.toNat:=jG (by have :=c.toNat_lt;unfold bJ;omega);simp only [execOp,J,aG G H,SV.val,convert,ME,bk hs,bk hd,Ms,Conv.intToInt,MF,this]
  ·rename_i k' n hs hd H;refine bZ.mk _ h λw=>?_
   have:IntKind.u8.wrap n=((UInt8.ofNat (n % 256).toNat).toNat:Int):=by
    rw [wrap_u8,NB];omega
   simp only [execOp,J,aG G H,SV.val,convert,ME,bk hs,bk hd,Ms,Conv.intToInt,MF,this]
  ·rename_i k' n hs hd H;refine bZ.mk _ h.2 λw=>?_
   simp only [execOp,J,aG G H,SV.val,convert,ME,bk hs,bk hd,Ms,Conv.intToInt,MF,jG h.1]
  ·rename_i k' c hs hd H;refine bZ.mk _ h λw=>?_
   have:IntKind.i32.wrap (c.toNat:Int)=c.toNat:=IntWalk.i32_in _ (by have :=c.toNat_lt;omega);simp only [execOp,J,aG G H,SV.val,convert,ME,bk hs,bk hd,Ms,Conv.intToInt,MF,this]
  ·rename_i k' n hs hd H;refine bZ.mk _ h.2 λw=>?_
   have:IntKind.i32.wrap n=n:=IntWalk.i32_in _ (by have :=h.1;omega);simp only [execOp,J,aG G H,SV.val,convert,ME,bk hs,bk hd,Ms,Conv.intToInt,MF,this]
  ·rename_i k' n hs hd H;refine bZ.mk _ h.2 λw=>?_
   simp only [execOp,J,aG G H,SV.val,convert,ME,bk hs,bk hd,Ms,Conv.intToString,MF,D1 h.1.1 h.1.2]
  ·exact h.elim
 ·rename_i t x ix J;split at h
  ·rename_i l n V H hn;refine bZ.mk _ h.2 λw=>?_
   simp only [execOp,J,aG G H,aG G hn,SV.val,ME,IU V h.1.1 h.1.2,Ms,MF]
  ·exact h.elim
 ·rename_i t x lo hi J;have β:∀{q:Option (Option SV)} {n:Option Int},Im (ev e) lo=q->q=n.map (λm=>some (SV.i m))->lo.map a.eval=mL n:=by
   intro q n Z W;cases lo<;>cases n<;>simp at Z W<;>subst Z<;>simp at W
   ·rfl
   ·simp [mL,aG G W,SV.val]
  have γ:∀{q:Option (Option SV)} {n:Option Int},Im (ev e) hi=q->q=n.map (λm=>some (SV.i m))->hi.map a.eval=mL n:=by
   intro q n Z W;cases hi<;>cases n<;>simp at Z W<;>subst Z<;>simp at W
   ·rfl
   ·simp [mL,aG G W,SV.val]
  have hs:∀{l:aF} {n m:Option Int},T.und t=some .string->ev e x=some (.s l)->lo.map a.eval=mL n->hi.map a.eval=mL m->0<=n.getD 0->n.getD 0<=m.getD l.length->m.getD l.length<=l.length->
    k (.s ((l.take (m.getD l.length).toNat).drop (n.getD 0).toNat))->bZ T.P o a k:=by
   intro l n m V H Z W h3 h4 h5 hk;refine bZ.mk _ hk λw=>?_
   simp only [execOp,J,aG G H,SV.val,Z,W,PG,ME,xO V h3 h4 h5,Ms,MF]
  have hv:∀{el:Nat} {val:Value} {n m:Option Int},T.und t=some (.slice el)->ev e x=some (.v val)->lo.map a.eval=mL n->hi.map a.eval=mL m->runPR (slR T el val (n.getD 0) m) k->bZ T.P o a k:=by
   intro el val n m V H Z W hk;unfold slR at hk;split at hk
   ·exact hk.elim
   ·rename_i z sz b ι;cases m with
    | none=>
     obtain⟨ad,len,cap,rfl,h3,h4,h5,hk⟩:=hk;refine bZ.mk _ hk λw=>?_
     simp only [execOp,J,aG G H,SV.val,Z,W,PG,ME,qp (hi:=none) V ι h3 h4 h5,Ms,MF];rfl
    | some m=>
     obtain⟨ad,len,cap,rfl,h3,h4,h5,hk⟩:=hk;refine bZ.mk _ hk λw=>?_
     simp only [execOp,J,aG G H,SV.val,Z,W,PG,ME,qp (hi:=some m) V ι h3 h4 h5,Ms,MF];rfl
  split at h
  ·rename_i l V H Z W;refine hs (n:=none) (m:=none) V H (β Z rfl) (γ W rfl) (by simp) (by simp) (by simp) ?_;simpa [runPR]using h
  ·rename_i l p V H Z W;refine hs (n:=some p) (m:=none) V H (β Z rfl) (γ W rfl) h.1.1 h.1.2 (by simp) ?_;simpa using h.2
  ·rename_i l q V H Z W;refine hs (n:=none) (m:=some q) V H (β Z rfl) (γ W rfl) (by simp) h.1.1 h.1.2 ?_;simpa using h.2
  ·rename_i l p q V H Z W;exact hs (n:=some p) (m:=some q) V H (β Z rfl) (γ W rfl) h.1.1 h.1.2.1 h.1.2.2 h.2
  ·rename_i el val V H Z W;exact hv (n:=none) (m:=none) V H (β Z rfl) (γ W rfl) h
  ·rename_i el val p V H Z W;exact hv (n:=some p) (m:=none) V H (β Z rfl) (γ W rfl) h
  ·rename_i el val q V H Z W;exact hv (n:=none) (m:=some q) V H (β Z rfl) (γ W rfl) h
  ·rename_i el val p q V H Z W;exact hv (n:=some p) (m:=some q) V H (β Z rfl) (γ W rfl) h
  ·exact h.elim
 ·rename_i x i J;split at h
  ·rename_i xs H;split at h
   ·rename_i y hy;refine bZ.mk _ h λw=>?_
    rw [wK]at hy;have κ:∀(l:List SV) (j:Nat) (z:SV),l[j]?=some z->(SV.aO l)[j]?=some z.val:=by
     intro l
     induction l with
     | nil=>intro j z hz;simp at hz
     | cons p l ih=>intro j z hz;cases j with
      | zero=>simp at hz;subst hz;rfl
      | succ j=>simp at hz;simpa [SV.aO]using ih j z hz
    simp only [execOp,J,aG G H,SV.val,Instr.extract,Po,κ _ _ _ hy,ME,Ms,MF]
   ·exact h.elim
  ·exact h.elim
 ·rename_i x J;split at h
  ·rename_i b off H;refine bZ.mk _ h λw=>?_
   simp only [execOp,J,aG G H,SV.val,MF]
  ·rename_i val H;obtain⟨b,off,rfl,h⟩:=h;refine bZ.mk _ h λw=>?_
   simp only [execOp,J,aG G H,SV.val,MF]
  ·exact h.elim
 ·rename_i s x f J;split at h
  ·rename_i fs b off hs H;split at h
   ·rename_i fd hf;rw [dU]at hf;split at h
    ·rename_i z sz bb hi;split at h
     ·exact h.elim
     ·rename_i hz;refine bZ.mk _ h λw=>?_
      simp only [execOp,J,aG G H,SV.val,ME,Ei hs hf hi (λe=>by rw [e]at hz;cases hz),Ms,MF]
    ·exact h.elim
   ·exact h.elim
  ·exact h.elim
 ·rename_i t x ix J;split at h
  ·rename_i el val n V H hn;split at h
   ·rename_i z sz bb hi;obtain⟨b,off,len,cap,rfl,h0,Z,h⟩:=h;obtain⟨y,hy,ε⟩:=zO hn;obtain⟨kd,ζ⟩:=CM ε;refine bZ.mk _ h λw=>?_
    simp only [execOp,J,aG G H,aG G hy,ζ,SV.val,ME,DK V hi h0 Z,Ms,MF]
   ·exact h.elim
  ·rename_i len el b off n V H hn;split at h
   ·rename_i z sz bb hi;obtain⟨y,hy,ε⟩:=zO hn;obtain⟨kd,ζ⟩:=CM ε;refine bZ.mk _ h.2 λw=>?_
    simp only [execOp,J,aG G H,aG G hy,ζ,SV.val,ME,D3 V hi h.1.1 h.1.2,Ms,MF]
   ·exact h.elim
  ·exact h.elim
 ·rename_i t parts J;split at h
  ·rename_i fs zs s b ps V hi hp;split at h
   ·rename_i xs δ hb
    ·obtain⟨η,h⟩:=okAllC.get h;have θ:∀f∈fs.toList,∃z s b,T.inf f.type=some (z,s,b):=by
      intro f hf;rw [Ck]at δ;have :=Ou.1 δ f hf;rw [CN]at this;obtain⟨⟨z,s,b⟩,H⟩:=Option.isSome_iff_exists.1 this;exact⟨z,s,b,H⟩
     refine bZ.mk _ h λw=>?_
     have α:(parts.map λp=>(p.1,a.eval p.2)).toList=ps.map λp=>(p.1,p.2.val):=by
      rw [NG];exact ta G hp
     have hr:=Dm (w:=w) V hi θ α η hb;simp only [execOp,J,ME];rw [show(Array.map (λx=>match x with | (i,x)=>(i,a.eval x)) parts)=parts.map λp=>(p.1,a.eval p.2)from rfl,hr];simp only [Ms,MF,SV.val]
   ·exact h.elim
  ·rename_i n el zs s b V hi hp;split at h
   ·rename_i he;rw [CN]at he;refine bZ.mk _ h λw=>?_
    have α:parts.map (λp=>(p.1,a.eval p.2))=#[]:=by
     apply NO.1;rw [NG,ta G hp];rfl
    simp only [execOp,J,ME];rw [show(Array.map (λx=>match x with | (i,x)=>(i,a.eval x)) parts)=parts.map λp=>(p.1,a.eval p.2)from rfl,α,AN V hi he];simp only [Ms,MF,SV.val]
   ·exact h.elim
  ·rename_i n el zs s b p ps V hi hp;split at h
   ·rename_i z bb he;have he:=nE he;split at h
    ·rename_i xs hb;obtain⟨η,h⟩:=okAllC.get h;refine bZ.mk _ h λw=>?_
     have α:(parts.map λp=>(p.1,a.eval p.2)).toList=(p::ps).map λp=>(p.1,p.2.val):=by
      rw [NG];exact ta G hp
     have hr:=zW (w:=w) V hi he α η hb;simp only [execOp,J,ME];rw [show(Array.map (λx=>match x with | (i,x)=>(i,a.eval x)) parts)=parts.map λp=>(p.1,a.eval p.2)from rfl,hr];simp only [Ms,MF,SV.val]
    ·exact h.elim
   ·exact h.elim
  ·exact h.elim
 ·rename_i fn first captured J;split at h
  ·rename_i f ys Z W;refine bZ.mk _ h λw=>?_
   have e1:first.map a.eval=#[]:=by
    apply NO.1;rw [NG,gk G Z]
   have e2:captured.map a.eval=(SV.aO ys).toArray:=by
    apply NO.1;rw [NG,gk G W]
   simp only [execOp,J,ME,Instr.makeFunc,e1,e2,Ms,MF,SV.val]
  ·exact h.elim
 ·rename_i c J;split at h
  ·rename_i hc;have key:∀{t:Nat} {y:SV} {v:Value},ma c.argTypes.toList 0=some t->LV e (ma c.args.toList 0)=some y->(∀ty w,(Builtin.len_ #[t] ty #[y.val]).run T.P w= .ok v w)->
     ∀w,(execOp a.eval o).run T.P w= .ok (.value v) w:=by
    intro t y v Z W h3 w;rw [dU]at Z W;obtain⟨ar,μ,ν⟩:∃ar,c.args[0]?=some ar/\ev e ar=some y:=by
     cases hq:c.args[0]? with
     | none=>rw [hq]at W;cases W
     | some ar=>rw [hq]at W;exact⟨ar,rfl,W⟩
    have h4:∀ty,(Builtin.len_ c.argTypes ty (c.args.map a.eval)).run T.P w= .ok v w:=by
     intro ty;rw [<-h3 ty w];have e1:(c.args.map a.eval)[0]?=some y.val:=by rw [Array.getElem?_map,μ];simp [aG G ν]
     simp only [Builtin.len_,Z,e1];rfl
    simp only [execOp,J,resolve,hc,ME,MF,Ms,invoke,builtin,h4]
   split at h
   ·rename_i t l Z W;split at h
    ·rename_i V;exact bZ.mk (.i _) h (key Z W λty w=>Gd V)
    ·exact h.elim
   ·rename_i t val Z W;split at h
    ·rename_i el V;obtain⟨ad,n,cap,rfl,h⟩:=h;exact bZ.mk (.i _) h (key Z W λty w=>Fc V)
    ·exact h.elim
   ·exact h.elim
  ·rename_i hc;split at h
   ·rename_i p q W;have e2:c.args.map a.eval=#[.int .i64 p,.int .i64 q]:=by apply NO.1;rw [NG,gk G W]
    refine bZ.mk _ h λw=>?_
    simp only [execOp,J,resolve,hc,ME,MF,Ms,invoke,builtin,e2,HZ,SV.val]
   ·rename_i p q W;have e2:c.args.map a.eval=#[.string (ax p),.string (ax q)]:=by apply NO.1;rw [NG,gk G W]
    refine bZ.mk _ h λw=>?_
    simp only [execOp,J,resolve,hc,ME,MF,Ms,invoke,builtin,e2,GK,SV.val]
   ·exact h.elim
  ·rename_i hc;split at h
   ·rename_i p q W;have e2:c.args.map a.eval=#[.int .i64 p,.int .i64 q]:=by apply NO.1;rw [NG,gk G W]
    refine bZ.mk _ h λw=>?_
    simp only [execOp,J,resolve,hc,ME,MF,Ms,invoke,builtin,e2,HO,SV.val]
   ·rename_i p q W;have e2:c.args.map a.eval=#[.string (ax p),.string (ax q)]:=by apply NO.1;rw [NG,gk G W]
    refine bZ.mk _ h λw=>?_
    simp only [execOp,J,resolve,hc,ME,MF,Ms,invoke,builtin,e2,Eu,SV.val]
   ·exact h.elim
  ·exact h.elim
 ·exact h.elim
theorem cK.pure {T:dJ}{o:Oper}{a:Act}{w:World}{k:SV->PV}(h:bZ T.P o a λy=>k y w):cK T.P o a w k:=by
 obtain⟨y,G,hr⟩:=h;exact cK.value (hr w) rfl G
theorem rN {T:dJ}{o:Oper}{a:Act}{w:World}{k:SV->PV}{t b off:Nat}{x:Operand}(V:o.op= .load t x)(W:a.eval x= .pointer (some ⟨b,off,none⟩))(h:sT T t b off w k):cK T.P o a w k:=by
 unfold sT loadR at h;split at h
 ·rename_i G;obtain⟨y,H,h⟩:=h;refine cK.value (w':=w) ?_ rfl h;simp only [execOp,V,W,ME,pk G H,Ms,MF]
 ··split at h
   ·rename_i ks z n bb G hk hi;split at h
    ·rename_i J;have J:=jZ J;rw [lv]at J;obtain⟨xs,Z,H,h⟩:=ExL.get h;refine cK.value (w':=w) ?_ rfl h;simp only [execOp,V,W,SV.val,ME,iz (cs:=SV.aO xs) (iE G w) hi (by rw [fY,Z,J]) (λj hj=>H.get j (by omega)),Ms,MF]
    ·exact h.elim
   ·rename_i z n bb G hk hi;obtain⟨cs,Z,H,h⟩:=h;refine cK.value (w':=w) ?_ rfl h;simp only [execOp,V,W,SV.val,ME,iz (iE G w) hi Z H,Ms,MF]
   ·exact h.elim
theorem qf {T:dJ}{N:Nat}{e:Env}{o:Oper}{a:Act}{w:World}{k:SV->PV}{t b off:Nat}{x y:Operand}{z:SV}(G:aD N e a)(V:o.op= .store t x y)(W:a.eval x= .pointer (some ⟨b,off,none⟩))(Z:ev e y=some z)(h:pM T t b off z w k):cK T.P o a w k:=by
 have many:∀{n H:Nat} {J:Value} {cs:List Value},T.inf t=some (J,n,H)->z.val= .agg cs.toArray->wP w b off n cs k->cK T.P o a w k:=by
  intro n H J cs hi hz h;obtain⟨⟨h1,h2,h3⟩,h⟩:=h;refine cK.skip (w':=_) ?_ (h _ rfl);simp only [execOp,V,W,aG G Z,hz,ME];rw [za hi h1 h2 h3];simp only [Ms,MF]
 unfold pM storeR at h;split at h
 ·rename_i hs;split at h
  ·rename_i J H hi;have hi:=nE hi;obtain⟨hv,⟨⟨u,hu⟩,hf⟩,h⟩:=oneOk.get h;refine cK.skip (w':=_) ?_ (h _ rfl);simp only [execOp,V,W,aG G Z,ME,AB hi hv hu hf,Ms,MF]
  ·exact h.elim
 ·split at h
  ·rename_i hi;exact many hi rfl h
  ·rename_i hi;exact many hi rfl h
  ·rename_i hi;obtain⟨cs,rfl,h⟩:=h;exact many hi rfl h
  ·exact h.elim
theorem qc {T:dJ}{N:Nat}{e:Env}{o:Oper}{a:Act}{w:World}{k:SV->PV}{t:Nat}{m x y:Operand}(G:aD N e a)
  (V:∀(ρ:Operand->Value) (w w':World),(Instr.mapUpdate t (ρ m) (ρ x) (ρ y)).run T.P w= .ok () w'->(execOp ρ o).run T.P w= .ok .skip w') (h:runOR T (mapupR T e t m x y) w k):cK T.P o a w k:=by
 unfold mapupR at h;split at h
 ·rename_i kt et val q z hm W Z hz;split at h
  ·rename_i d hd;split at h
   ·rename_i J;obtain⟨r,mm,rfl,H,h⟩:=h;obtain⟨w',h1,h2,h3⟩:=um (z:=z.val) hm (lL hd J).1 (lL hd J).2 H;refine cK.skip (w':=w') (V _ _ _ ?_) (h w' h2 h3);rw [aG G W,aG G Z,aG G hz];exact h1
   ·exact h.elim
  ·exact h.elim
 ·exact h.elim
theorem n8 {T:dJ}{N:Nat}{e:Env}{o:Oper}{a:Act}{w:World}{k:SV->PV}(G:aD N e a)(h:Ax T e o w k):cK T.P o a w k:=by
 unfold Ax opR at h;split at h
 ·rename_i src dst x H;split at h
  ·rename_i el l hs hd Z;split at h
   ·rename_i he;obtain⟨cap,w',J,h2,h3⟩:=yn (w:=w) (l:=l) hs hd he;refine cK.value (w':=w') ?_ rfl (h _ cap w' rfl h2 h3);simp only [execOp,H,aG G Z,SV.val,ME,J,Ms,MF]
   ·exact h.elim
  ·rename_i el val hs hd Z;split at h
   ·rename_i he;obtain⟨b,off,n,c,l,rfl,J,h2,h⟩:=h;refine cK.value (w':=w) ?_ rfl h;simp only [execOp,H,aG G Z,SV.val,ME,run_convert_bytes_string (P:=T.P) w src dst el _ _ _ (T.und_ok _ _ hs) (T.und_ok _ _ he) (T.und_ok _ _ hd),uO J h2,Ms,MF]
   ·exact h.elim
  ·exact cK.pure (pure_run G h)
 ·rename_i t x H;split at h
  ·rename_i b off Z;exact rN H (aG G Z) h
  ·rename_i val Z;obtain⟨b,off,rfl,h⟩:=h;exact rN H (aG G Z) h
  ·exact h.elim
 ·rename_i t x y H;split at h
  ·rename_i b off z Z hy;exact qf G H (aG G Z) hy h
  ·rename_i val z Z hy;obtain⟨b,off,rfl,h⟩:=h;exact qf G H (aG G Z) hy h
  ·exact h.elim
 ·rename_i el H;split at h
  ·rename_i z s b hi;simp only [runOR,gg,lu]at h;refine cK.value (w':=_) ?_ rfl (h _ _ rfl rfl);simp only [execOp,H,ME,D4 hi (.tuple #[]),Ms,MF,SV.val]
  ·exact h.elim
 ·rename_i t H;refine cK.value (w':=_) ?_ rfl (h _ _ rfl rfl);simp only [execOp,H,PG,ME,Ai,Ms,MF,SV.val]
 ·rename_i t l c H;split at h
  ·rename_i el n m ht hl hc;split at h
   ·rename_i z s hi;have hi:=nE hi;split at h
    ·rename_i α δ;obtain⟨⟨h0,rfl,J⟩,h⟩:=h;refine cK.value (w':=_) ?_ rfl (h _ _ rfl rfl);simp only [execOp,H,aG G hl,aG G hc,SV.val,ME,uy ht hi α (Pp δ) h0 J,Ms,MF]
    ·exact h.elim
   ·exact h.elim
  ·exact h.elim
 ·rename_i t m x y H;exact qc G (λρ w r h=>by simp only [execOp,H,ME,h,Ms,MF]) h
 ·rename_i t m x y H;exact qc G (λρ w r h=>by simp only [execOp,H,ME,h,Ms,MF]) h
 ·rename_i t m x H;split at h
  ·rename_i kt et val q hm W hq;split at h
   ·rename_i d i hd hi;split at h
    ·rename_i hk;obtain⟨r,mm,rfl,V,h⟩:=h;obtain⟨v0,s,w',J,h2,h3,h4⟩:=wJ hm (lL hd hk).1 hi (lL hd hk).2 V;refine cK.value (w':=w') ?_ rfl (h v0 s w' h2 h3 h4);simp only [execOp,H,aG G W,aG G hq,ME];rw [show(SV.v (.map (some r))).val= .map (some r)from rfl,J];rfl
    ·exact h.elim
   ·exact h.elim
  ·exact h.elim
 ·rename_i t m s y H;split at h
  ·rename_i val s y W hs hy;obtain⟨r,d,mm,q,rfl,V,he,h⟩:=h;obtain⟨w',J,h2,h3⟩:=rK (t:=t) (z:=y.val) V he;refine cK.skip (w':=w') ?_ (h w' h2 h3);simp only [execOp,H,aG G W,aG G hs,aG G hy,ME];rw [show(SV.v (.map (some r))).val= .map (some r)from rfl,show(SV.i s).val= .int .i64 s from rfl,J];rfl
  ·exact h.elim
 ·rename_i t m x ok H;split at h
  ·rename_i kt et val q hm W hq;split at h
   ·rename_i d z sb hd hi;split at h
    ·rename_i hk;obtain⟨r,mm,rfl,V,y,g,hg,h⟩:=h;have hr:=BM (ok:=ok) hm (lL hd hk).1 hi (lL hd hk).2 V hg;refine cK.value (w':=w) ?_ rfl h;simp only [execOp,H,aG G W,aG G hq,ME];rw [show(SV.v (.map (some r))).val= .map (some r)from rfl,hr];cases ok<;>simp only [Ms,MF]<;>rfl
    ·exact h.elim
   ·exact h.elim
  ·exact h.elim
 ·rename_i el x H;split at h
  ·rename_i y hy;split at h
   ·rename_i val W _;have W:=EO W;subst W;obtain⟨cs,rfl,h⟩:=h;refine cK.value (w':=_) ?_ rfl (h _ _ rfl rfl);simp only [execOp,H,aG G hy,ME,xA,Ms,MF,SV.val];rfl
   ·rename_i val W _;have W:=EO W;subst W;obtain⟨J,h⟩:=h;refine cK.value (w':=_) ?_ rfl (h _ _ rfl rfl);simp only [execOp,H,aG G hy,ME,xA,Ms,MF,SV.val,pK J]
   ·simp only [runOR,gg]at h;obtain⟨hc,h⟩:=okC.get h;refine cK.value (w':=_) ?_ rfl (h _ _ rfl rfl);simp only [execOp,H,aG G hy,ME,xA,Ms,MF,SV.val,hc]
  ·exact h.elim
 ·rename_i t len parts H;split at h
  ·rename_i el ps ht hp;split at h
   ·rename_i z sz b hi;split at h
    ·rename_i cs ζ η θ hb
     ·rw [Cc,lu]at hb;rw [lv,lu]at ζ;simp only [runOR,gg]at h;obtain⟨ι,h⟩:=okAllC.get h;refine cK.value (w':=_) ?_ rfl (h _ _ rfl rfl);have β:(parts.map λp=>(p.1,a.eval p.2)).toList=ps.map λp=>(p.1,p.2.val):=by
       rw [NG];exact ta G hp
      have hr:=BA (w:=w) ht hi (by simpa using jZ ζ) (Pp η) (Pp θ) β ι hb;simp only [execOp,H,ME];rw [show(Array.map (λx=>match x with | (i,x)=>(i,a.eval x)) parts)=parts.map λp=>(p.1,a.eval p.2)from rfl,hr];simp only [Ms,MF,SV.val]
    ·exact h.elim
   ·exact h.elim
  ·exact h.elim
 ·rename_i c H;split at h
  ·rename_i hc;split at h
   ·rename_i t t' s x J h2;split at h
    ·rename_i el ε ht;have ε:=jZ ε;subst ε
     ·split at h
      ·rename_i z sz by_ hi;split at h
       ·rename_i α δ;rw [lv,lu]at α;have e1:c.argTypes=#[t,t]:=NO.1 J;have e2:c.args.map a.eval=#[s,x]:=by apply NO.1;rw [NG,gk G h2]
        obtain⟨v,w',hr,hk⟩:=Bt (ty:=o.type) ht hi (by simpa using jZ α) (Pp δ) h;refine cK.value (w':=w') ?_ rfl hk;simp only [execOp,H,resolve,hc,ME,MF,Ms,invoke,builtin,e1,e2,hr,SV.val]
       ·exact h.elim
      ·exact h.elim
    ·exact h.elim
   ·exact h.elim
  ·rename_i hc;split at h
   ·rename_i t s J h2;split at h
    ·rename_i el ht;split at h
     ·rename_i z sb hi;have hi:=nE hi;split at h
      ·rename_i hz;obtain⟨ad,n,cap,rfl,h⟩:=h;have e1:c.argTypes=#[t]:=NO.1 J;have e2:c.args.map a.eval=#[.slice ad n cap]:=by apply NO.1;rw [NG,gk G h2]
       rcases h with⟨rfl,h⟩ | ⟨b,off,rfl,γ,h⟩
       ·refine cK.value (w':=w) ?_ rfl h;simp only [execOp,H,resolve,hc,ME,MF,Ms,invoke,builtin,e1,e2,Bm ht,SV.val,SV.aO]
       ·refine cK.value (w':=_) ?_ rfl (h _ rfl);simp only [execOp,H,resolve,hc,ME,MF,Ms,invoke,builtin,e1,e2,Ef ht hi hz γ,SV.val,SV.aO]
      ·exact h.elim
     ·exact h.elim
    ·exact h.elim
   ·exact h.elim
  ·rename_i t hc;split at h
   ·rename_i val xs J h2;simp only [runOR,gg]at h;obtain⟨f,ca,W,hf,h⟩:=h;exact Gw G H hc J W hf h2 h
   ·exact h.elim
  ·rename_i f hc;split at h
   ·rename_i xs hf Z;simp only [runOR,gg]at h;exact Dy G H hc hf Z h
   ·exact h.elim
  ·exact cK.pure (pure_run G h)
 ·exact cK.pure (pure_run G h)
@[reducible] def slotOf (ops:Array Oper) (j:Nat):Option Nat:=match ma (mG ops) j with
 | some o=>(En o)
 | none=>none
theorem Di (ops:Array Oper)(j:Nat):slotOf ops j=(ops[j]?).bind (·.dst):=by
 unfold slotOf;rw [dU];cases ops[j]?<;>rfl
@[reducible] def bindDst (d:Option Nat) (y:SV) (e:Env):Env:=match d with
 | some d=>(d,y)::e
 | none=>e
def bindK:Option Nat->SV->Env->(Env->Prop)->Prop
 | some d,y,e,k=>k ((d,y)::e)
 | none,_,e,k=>k e
theorem cn (d:Option Nat)(y:SV)(e:Env)(k:Env->Prop):bindK d y e k=k (bindDst d y e):=by cases d<;>rfl
@[reducible] def beqR (a b:Nat):Bool:=match Nat.beq a b with
 | true=>true
 | false=>false
theorem Ig (a b:Nat):beqR a b=Nat.beq a b:=by unfold beqR;cases Nat.beq a b<;>rfl
def boolK:Bool->Prop->Prop->Prop
 | true,a,_=>a
 | false,_,b=>b
inductive GS where
 | run | skip | ifT (g:Nat) (x:Bool) | ifF (g:Nat) (x:Bool) | bad
@[reducible] def gst (ops:Array Oper) (e:Env):Option (Nat×Bool)->GS
 | none=> .run
 | some (j,want)=>match slotOf ops j with
  | none=> .bad
  | some g=>match look e g,want with
   | some .tt,true=> .run
   | some .ff,false=> .run
   | some .tt,false=> .skip
   | some .ff,true=> .skip
   | some .un,_=> .skip
   | some (.b x),true=> .ifT g x
   | some (.b x),false=> .ifF g x
   | _,_=> .bad
def guardG:GS->Env->(Env->Prop)->(Env->Prop)->Prop
 | .run,e,run,_=>run e
 | .skip,e,_,G=>G e
 | .ifT g x,e,run,G=>(x=true->run ((g,.tt)::e))/\(x=false->G ((g,.ff)::e))
 | .ifF g x,e,run,G=>(x=false->run ((g,.ff)::e))/\(x=true->G ((g,.tt)::e))
 | .bad,_,_,_=>False
def vcOps (T:dJ)(all:Array Oper)(K:Env->PV):List Oper->Env->PV
 | [],e,w=>K e w
 | o::r,e,w=>guardG (gst all e (L9 o)) e (λe=>Ax T e o w λy w'=>bindK (En o) y e λG=>vcOps T all K r G w') (λe=>bindK (En o) .un e λG=>vcOps T all K r G w)
def okOps (N:Nat)(l:List Oper):Bool:=l.all λo=>match o.dst with | some d=>decide (d< N) | none=>true
@[reducible] def dsts:List Oper->List Nat
 | []=>[]
 | o::l=>match (En o)with
  | some d=>d::dsts l
  | none=>dsts l
theorem CY:∀l:List Oper,dsts l=l.filterMap (·.dst)
 | []=>rfl
 | ⟨d,_,_,_,_,_⟩::l=>by
  rw [dsts,List.filterMap_cons,CY l];cases d<;>rfl
def du (ws:List Nat)(a a':Act):Prop:=∀t,t∉ws->a'.tmps.getD t undef=a.tmps.getD t undef
theorem du.refl (ws:List Nat)(a:Act):du ws a a:=λ _ _=>rfl
theorem du.trans {ws:List Nat}{a b c:Act}(h:du ws a b)(k:du ws b c):du ws a c:=λt G=>(k t G).trans (h t G)
theorem du.mono {ws G:List Nat}{a b:Act}(h:du ws a b)(H:∀t,t∈ws->t∈G):du G a b:=λt J=>h t λV=>J (H t V)
theorem du.put (a:Act)(d:Option Nat)(v:Value)(ws:List Nat)(h:∀x,d=some x->x∈ws):du ws a (a.put d v):=by
 intro t H;cases d with
 | none=>rfl
 | some d=>
  have G:d≠t:=λe=>H (e▸h d rfl)
  show(a.tmps.setIfInBounds d v).getD t undef=_;simp only [Array.getD,Array.size_setIfInBounds];split
  ·exact Array.getElem_setIfInBounds_ne _ G
  ·rfl
theorem aD.bind {N:Nat}{e:Env}{a:Act}(h:aD N e a){d:Option Nat}(hd:(match d with | some d=>decide (d< N) | none=>true)=true){x:SV}:aD N (bindDst d x e) (a.put d x.val):=by
 cases d with
 | none=>exact h
 | some d=>exact h.put (by simpa using hd) rfl
theorem aD.again {N:Nat}{e:Env}{a:Act}(h:aD N e a){g:Nat}{x y:SV}(H:look e g=some x)(J:x.val=y.val):aD N ((g,y)::e) a:=by
 refine⟨h.1,λt z G=>?_⟩;simp only [look]at G;split at G
 ·rename_i heq;have:g=t:=by simpa using heq
  subst this;cases G;rw [h.2 _ _ H,J]
 ·exact h.2 t z G
theorem wanted_of {N:Nat}{e:Env}{a:Act}(J:aD N e a){all:Array Oper}{o:Oper}{j:Nat}{want:Bool}{g:Nat}{x:SV}(Z:o.guard=some (j,want))(W:slotOf all j=some g)(hx:look e g=some x):
  Region.wanted o (yielded all a.tmps)=(match x.val with | .bool b=>b==want | _=>false):=by
 have H:=J.2 _ _ hx;rw [Di]at W;simp only [Region.wanted,Z,yielded,W,Option.bind_some];simp only [Array.getD]at H;split at H
 ·rename_i G;have V:a.tmps[g]?=some x.val:=by rw [Array.getElem?_eq_getElem G];exact Nz some H
  rw [V];cases x.val<;>first | rfl | simp
 ·rename_i G;have:a.tmps[g]?=none:=by simp at G|-;omega
  rw [this,<-H];rfl
theorem pz {T:dJ}{N:Nat}{all:Array Oper}{K:Env->PV}{Q:Exit->Act->PV}:∀(l:List Oper) (e:Env) (a:Act) (w:World),aD N e a->okOps N l=true->vcOps T all K l e w->
  (∀e' a' w',K e' w'->aD N e' a'->a'.defers=a.defers->du (dsts l) a a'->Q .normal a' w')->wpList T.P all Q l a w
 | [],e,a,w,G,β,h,hQ=>hQ e a w h G rfl (du.refl _ _)
 | o::r,e,a,w,G,β,h,hQ=>by
  simp only [okOps,ND,Mp]at β;obtain⟨hd,α⟩:=β;have ζ:∀x,o.dst=some x->x∈dsts (o::r):=by
   intro x H;simp [dsts,H]
  have γ:∀t,t∈dsts r->t∈dsts (o::r):=by
   intro t ht;simp only [dsts,List.filterMap_cons]at*;split<;>simp_all
  have δ:∀(v:Value) e' a' w',K e' w'->aD N e' a'->a'.defers=(a.put o.dst v).defers->du (dsts r) (a.put o.dst v) a'->Q .normal a' w':=by
   intro v e' a' w' hk ε η θ;refine hQ e' a' w' hk ε (η.trans ?_) ((du.put a o.dst v _ ζ).trans (θ.mono γ));cases o.dst<;>rfl
  have run:∀{e1:Env},aD N e1 a->(Ax T e1 o w λy w'=>vcOps T all K r (bindDst o.dst y e1) w')->Region.wanted o (yielded all a.tmps)=true->wpList T.P all Q (o::r) a w:=by
   intro e1 J h1 hw;unfold wpList;rw [MZ hw];left;exact n8 J h1 _ _ λy w' hk=>pz r _ _ _ (J.bind hd) α hk (δ y.val)
  have V:∀{e1:Env},aD N e1 a->vcOps T all K r (bindDst o.dst .un e1) w->Region.wanted o (yielded all a.tmps)=false->wpList T.P all Q (o::r) a w:=by
   intro e1 J h1 hw;unfold wpList;rw [MJ (by rw [hw];simp)];exact pz r _ _ _ (J.bind (x:= .un) hd) α h1 (δ undef)
  unfold vcOps at h;simp only [cn]at h;unfold gst at h;split at h
  ·rename_i W;exact run G h (by simp [Region.wanted,W])
  ·rename_i j want W;split at h
   ·exact h.elim
   ·rename_i g Z;split at h
    ·rename_i H;exact run G h (by rw [wanted_of G W Z H];rfl)
    ·rename_i H;exact run G h (by rw [wanted_of G W Z H];rfl)
    ·rename_i H;exact V G h (by rw [wanted_of G W Z H];rfl)
    ·rename_i H;exact V G h (by rw [wanted_of G W Z H];rfl)
    ·rename_i H;exact V G h (by rw [wanted_of G W Z H];rfl)
    ·rename_i x H;cases x with
     | true=>exact run (G.again (y:= .tt) H rfl) (h.1 rfl) (by rw [wanted_of G W Z H];rfl)
     | false=>exact V (G.again (y:= .ff) H rfl) (h.2 rfl) (by rw [wanted_of G W Z H];rfl)
    ·rename_i x H;cases x with
     | false=>exact run (G.again (y:= .ff) H rfl) (h.1 rfl) (by rw [wanted_of G W Z H];rfl)
     | true=>exact V (G.again (y:= .tt) H rfl) (h.2 rfl) (by rw [wanted_of G W Z H];rfl)
    ·exact h.elim
@[reducible] def Jo (T:dJ) (o:Oper):Bool:=match (I3 o)with
 | .load .. =>false
 | .store .. =>false
 | .alloc .. =>false
 | .box .. =>false
 | .buildSlice .. =>false
 | .makeMap .. =>false
 | .makeSlice .. =>false
 | .mapUpdate .. =>false
 | .insert .. =>false
 | .lookup .. =>false
 | .mapEntry .. =>false
 | .entryStore .. =>false
 | .convert src dst _=>(match T.U src,T.U dst with
  | some .string,some (.slice _)=>false
  | some (.slice _),some .string=>false
  | _,_=>true)
 | .call c=>(match Lq c with
  | .builtin .len=>true
  | .builtin .max=>true
  | .builtin .min=>true
  | _=>false)
 | _=>true
@[reducible] def isLoad (o:Oper):Bool:=match (I3 o)with
 | .load .. =>true
 | _=>false
def runLoadH:LR->(PV)->Nat->Nat->(SV->Prop)->Prop
 | .one kd,S,b,off,k=>Lf kd λy=>(∀w',S w'->w'.cell? ⟨b,off,none⟩=some y.val)/\k y
 | .agg ks,S,b,off,k=>ExL ks λxs=>(∀w',S w'->CellsAt w' b off xs)/\k (.ag xs)
 | .list n,S,b,off,k=>∃cs:List Value,cs.length=n/\(∀w',S w'->∀j,j< n->w'.cell? ⟨b,off+j,none⟩=cs[j]?)/\k (.agl cs)
 | .bad,_,_,_,_=>False
def pH (T:dJ)(t b off:Nat)(S:PV)(k:SV->Prop):Prop:=runLoadH (loadR T t) S b off k
inductive HR where
 | at_ (r:LR) (b off:Nat) | val (r:LR) (v:Value) | bad
@[reducible] def hR (T:dJ) (e:Env):Op->HR
 | .load t x=>match ev e x with
  | some (.a b off)=> .at_ (loadR T t) b off
  | some (.v val)=> .val (loadR T t) val
  | _=> .bad
 | _=> .bad
def runH:HR->(PV)->(SV->Prop)->Prop
 | .at_ r b off,S,k=>runLoadH r S b off k
 | .val r v,S,k=>∃b off,v= .pointer (some ⟨b,off,none⟩)/\runLoadH r S b off k
 | .bad,_,_=>False
def rz (T:dJ)(e:Env)(o:Oper)(S:PV)(k:SV->Prop):Prop:=runH (hR T e (I3 o)) S k
def mV (ops:Array Oper)(e:Env)(o:Oper)(run G:Env->Prop):Prop:=guardG (gst ops e (L9 o)) e run G
def II (X:Nat->Prop):List Nat->Prop
 | []=>True
 | [i]=>X i
 | i::r=>X i/\II X r
theorem II.get {X:Nat->Prop}:∀{r:List Nat},II X r->∀i∈r,X i
 | [],_,i,hi=>by cases hi
 | [j],h,i,hi=>by
  have:i=j:=by simpa using hi
  subst this;exact h
 | j::G::r,h,i,hi=>by
  cases hi with
  | head=>exact h.1
  | tail _ hi=>exact II.get (r:=G::r) h.2 i hi
theorem dY {N:Nat}{ops:Array Oper}{e:Env}{a:Act}{o:Oper}{run Z:Env->Prop}{G:Prop}(H:aD N e a)(h:mV ops e o run Z)
  (hr:∀e',aD N e' a->run e'->Region.wanted o (yielded ops a.tmps)=true->G) (hs:∀e',aD N e' a->Z e'->Region.wanted o (yielded ops a.tmps)=false->G):G:=by
 unfold mV gst at h;split at h
 ·rename_i W;exact hr e H h (by simp [Region.wanted,W])
 ·rename_i j want W;split at h
  ·exact h.elim
  ·rename_i g J;split at h
   ·rename_i V;exact hr e H h (by rw [wanted_of H W J V];rfl)
   ·rename_i V;exact hr e H h (by rw [wanted_of H W J V];rfl)
   ·rename_i V;exact hs e H h (by rw [wanted_of H W J V];rfl)
   ·rename_i V;exact hs e H h (by rw [wanted_of H W J V];rfl)
   ·rename_i V;exact hs e H h (by rw [wanted_of H W J V];rfl)
   ·rename_i x V;cases x with
    | true=>exact hr _ (H.again (y:= .tt) V rfl) (h.1 rfl) (by rw [wanted_of H W J V];rfl)
    | false=>exact hs _ (H.again (y:= .ff) V rfl) (h.2 rfl) (by rw [wanted_of H W J V];rfl)
   ·rename_i x V;cases x with
    | false=>exact hr _ (H.again (y:= .ff) V rfl) (h.1 rfl) (by rw [wanted_of H W J V];rfl)
    | true=>exact hs _ (H.again (y:= .tt) V rfl) (h.2 rfl) (by rw [wanted_of H W J V];rfl)
   ·exact h.elim
theorem qo {T:dJ}{a:Act}{o:Oper}{S:PV}{k:SV->Prop}{t b off:Nat}{x:Operand}(V:o.op= .load t x)(W:a.eval x= .pointer (some ⟨b,off,none⟩))(h:pH T t b off S k):
  ∃y,k y/\∀w,S w->(execOp a.eval o).run T.P w= .ok (.value y.val) w:=by
 unfold pH loadR at h;split at h
 ·rename_i G;obtain⟨y,H,h⟩:=h;refine⟨_,h,λw hw=>?_⟩;simp only [execOp,V,W,ME,pk G (H w hw),Ms,MF]
 ··split at h
   ·rename_i ks z n bb G hk hi;split at h
    ·rename_i J;have J:=jZ J;rw [lv]at J;obtain⟨xs,Z,H,h⟩:=ExL.get h;refine⟨_,h,λw hw=>?_⟩;simp only [execOp,V,W,SV.val,ME,iz (cs:=SV.aO xs) (iE G w) hi (by rw [fY,Z,J]) (λj hj=>(H w hw).get j (by omega)),Ms,MF]
    ·exact h.elim
   ·rename_i z n bb G hk hi;obtain⟨cs,Z,H,h⟩:=h;refine⟨_,h,λw hw=>?_⟩;simp only [execOp,V,W,SV.val,ME,iz (iE G w) hi Z (H w hw),Ms,MF]
   ·exact h.elim
theorem vU {T:dJ}{N:Nat}{e:Env}{a:Act}{o:Oper}{S:PV}{k:SV->Prop}(G:aD N e a)(h:rz T e o S k):
  ∃y,k y/\∀w,S w->(execOp a.eval o).run T.P w= .ok (.value y.val) w:=by
 unfold rz hR at h;split at h
 ·rename_i t x J;split at h
  ·rename_i b off H;exact qo J (aG G H) h
  ·rename_i val H;obtain⟨b,off,rfl,h⟩:=h;exact qo J (aG G H) h
  ·exact h.elim
 ·exact h.elim
def jM (ops:Array Oper)(j:Nat):Bool:=match ops[j]? with
 | none=>true
 | some G=>(List.range ops.size).any λi=>(match ops[i]? with | some o=>isLoad o | none=>false)&&G.after.toList.all λe=> !(Region.binds .any e)|| !(e.on==i)
theorem y4 {ops:Array Oper}{i j:Nat}{G H:Oper}(hi:ops[i]?=some G)(J:ops[j]?=some H)(V:isLoad G=true)(W:∀e∈H.after,Region.binds .any e=true->e.on≠i):jM ops j=true:=by
 unfold jM;simp only [J];refine Ow.2 ⟨i,NV.2 (Na.1 hi).1,?_⟩;simp only [hi,V,Oh];refine Ou.2 λe he=>?_
 have :=W e (by simpa using he);cases hb:Region.binds .any e with
 | false=>rfl
 | true=>simp [this hb]
def dC (P:Program)(ops:Array Oper)(lt:Nat->Bool)(Q:Exit->Act->PV)(S:PV):Nat->Array Bool->Act->PV
 | 0,G,a,w=>Region.ready .any ops G=[]/\Q .normal a w
 | fuel+1,G,a,w=>
  (Region.ready .any ops G=[]->Q .normal a w)/\
  ∀i∈Region.ready .any ops G,wpOp P ops Q i (λa' w'=>(if lt i=true then w'=w else jM ops i=true->S w')/\dC P ops lt Q S fuel (G.setIfInBounds i true) a' w') a w
theorem tR {P:Program}{ops:Array Oper}{lt:Nat->Bool}{Q:Exit->Act->PV}{S:PV}:∀(fuel:Nat) (G:Array Bool) (a:Act) (w:World),dC P ops lt Q S fuel G a w->wpAny P .any ops Q fuel G a w
 | 0,_,_,_,h=>h
 | fuel+1,_,_,_,h=>⟨h.1,λi hi=>wpOp_mono (λa' w' H=>tR fuel _ a' w' H.2) (h.2 i hi)⟩
theorem vW {P:Program}{ops:Array Oper}{lt:Nat->Bool}{Q:Exit->Act->PV}{S:PV}{i:Nat}{W:Oper}{v:Value}(hi:ops[i]?=some W)(ε:lt i=true)(β:∀(j:Nat) (o:Oper) cs b,ops[j]?=some o->o.op≠ .select cs b)
  (hQ:∀c a w,Q (.panic c) (a.put W.dst v) w->Q (.panic c) a w):
  ∀(fuel:Nat) (G:Array Bool) (a:Act) (w:World),
   (∀j oj,ops[j]?=some oj->j≠i->G.getD j true=false->(∀e∈oj.after,Region.binds .any e=true->e.on≠i)->W.apart ops oj=true)->
   i∈Region.ready .any ops G->YieldsIf P ops (λw=>isLoad W=true->S w) W v a->(isLoad W=true->S w)->
   dC P ops lt Q S fuel (G.setIfInBounds i true) (a.put W.dst v) w->dC P ops lt Q S (fuel+1) G a w:=by
 intro fuel
 induction fuel with
 | zero=>
  intro G a w _ hr hy hS H;refine⟨λh=>(by rw [h]at hr;cases hr),λj hj=>?_⟩;by_cases J:j=i
  ·subst J;exact hy.wpOp hi hS ⟨by rw [MZ ε],H⟩
  ·have :=ready_mono hj J;rw [H.1]at this;cases this
 | succ fuel ih=>
  intro G a w V hr hy hS H;refine⟨λh=>(by rw [h]at hr;cases hr),λj hj=>?_⟩;by_cases J:j=i
  ·subst J;exact hy.wpOp hi hS ⟨by rw [MZ ε],H⟩
  ·have h1:=H.2 j (ready_mono hj J);obtain⟨γ,oj,Z,ζ⟩:=mem_ready.1 hj;have δ:∀e∈oj.after,Region.binds .any e=true->e.on≠i:=λe he hb heq=>by
    have h1:=ζ e he hb;have h0:=(mem_ready.1 hr).1;rw [heq]at h1;rcases N2 i G.size with h' | h'
    ·simp [h']at h0 h1;rw [h0]at h1;cases h1
    ·simp [Array.getElem?_eq_none h']at h1
   have h2:=wpOp_putIf Z (V j oj Z J γ δ) (λcs b=>β i W cs b hi) (λcs b=>β j oj cs b Z) hQ hy h1;have α:∀k ok,ops[k]?=some ok->k≠i->(G.setIfInBounds j true).getD k true=false->
     (∀e∈ok.after,Region.binds .any e=true->e.on≠i)->W.apart ops ok=true:=λk ok hk ι η κ=>by
    refine V k ok hk ι ?_ κ;by_cases θ:j=k
    ·subst θ;exact γ
    ·rw [getD_set_ne true θ]at η;exact η
   refine wpOp_mono (λa' w' h3=>?_) h2;have μ:isLoad W=true->S w':=by
    intro hl;have h4:=h3.2.1;split at h4
    ·rw [h4];exact hS hl
    ·exact h4 (y4 hi Z hl δ)
   refine⟨h3.2.1,ih (G.setIfInBounds j true) a' w' α (ready_mono hr (PB J)) h3.1 μ ?_⟩;rw [Array.setIfInBounds_comm _ _ J];exact h3.2.2
def ir (T:dJ)(ops:Array Oper)(i:Nat):Bool:=match ops[i]? with
 | some o=>Jo T o||isLoad o
 | none=>false
inductive KJ where
 | h | g | n
 deriving DecidableEq
inductive Pl where
 | done | lt (i:Nat) (p:Pl) | one (k:KJ) (i:Nat) (p:Pl) | br (k:KJ) (i:Nat) (p r:Pl)
def kOk (T:dJ)(ops:Array Oper)(late:Bool)(k:KJ)(i:Nat):Bool:=match late,k with
 | false,.h=>true
 | true,.g=> !ir T ops i
 | true,.n=> !ir T ops i&& !jM ops i
 | _,_=>false
def plC (T:dJ)(ops:Array Oper)(late:Bool):Pl->Nat->Array Bool->List Nat->Bool->Bool
 | .done,_,_,q,_=>q.isEmpty
 | .lt i p,f+1,L,q,top=>top&&q.contains i&&Region.free .any ops L i&&(!late||ir T ops i)&&plC T ops late p f (L.setIfInBounds i true) (Region.ready .any ops (L.setIfInBounds i true)) true
 | .one k i p,f+1,L,q,_=>q==[i]&&kOk T ops late k i&&plC T ops late p f (L.setIfInBounds i true) (Region.ready .any ops (L.setIfInBounds i true)) true
 | .br k i p r,f+1,L,j::q,_=>j==i&&kOk T ops late k i&&plC T ops late p f (L.setIfInBounds i true) (Region.ready .any ops (L.setIfInBounds i true)) true&&plC T ops late r (f+1) L q false
 | _,_,_,_,_=>false
def runK:KJ->Prop->Prop->Prop
 | .h,s,x=>s/\x
 | .g,s,x=>s/\x
 | .n,_,x=>x
def oI:KJ->Prop->Prop->Prop
 | .h,_,x=>x
 | .g,s,x=>s/\x
 | .n,_,x=>x
def vcP (T:dJ)(ops:Array Oper)(S:PV)(K:Env->PV):Pl->Env->PV
 | .done,e,w=>K e w
 | .lt i p,e,w=>optK (ma (mG ops) i) λo=>mV ops e o
   (λG=>boolK (isLoad o) (rz T G o S λy=>bindK (En o) y G λH=>vcP T ops S K p H w) (wY T G o λy=>bindK (En o) y G λH=>vcP T ops S K p H w))
   (λG=>bindK (En o) .un G λH=>vcP T ops S K p H w)
 | .one k i p,e,w=>optK (ma (mG ops) i) λo=>mV ops e o
   (λG=>Ax T G o w λy w'=>runK k (S w') (bindK (En o) y G λH=>vcP T ops S K p H w'))
   (λG=>oI k (S w) (bindK (En o) .un G λH=>vcP T ops S K p H w))
 | .br k i p r,e,w=>(optK (ma (mG ops) i) λo=>mV ops e o
   (λG=>Ax T G o w λy w'=>runK k (S w') (bindK (En o) y G λH=>vcP T ops S K p H w'))
   (λG=>oI k (S w) (bindK (En o) .un G λH=>vcP T ops S K p H w)))/\vcP T ops S K r e w
section
variable {T:dJ} {N:Nat} {ops:Array Oper} {S:PV} {K:Env->PV} {Q0:Exit->Act->PV}
theorem xT (G:okOps N ops.toList=true){i:Nat}{o:Oper}(hi:ops[i]?=some o):(match o.dst with | some d=>decide (d< N) | none=>true)=true/\∀x,o.dst=some x->x∈dsts ops.toList:=by
 have hm:o∈ops.toList:=by
  have :=Array.mem_of_getElem? hi;simpa using this
 exact⟨Ou.1 G o hm,λx H=>by rw [CY];exact List.mem_filterMap.2 ⟨o,hm,H⟩⟩
theorem Ea (γ:Region.noSelect ops=true)(δ:okOps N ops.toList=true)(η:∀c a w,¬Q0 (.panic c) a w):∀(p:Pl) (f:Nat) (L:Array Bool) (q:List Nat) (top:Bool) (e:Env) (a:Act) (w:World),
  plC T ops false p f L q top=true->(top=true->q=Region.ready .any ops L)->aD N e a->S w->vcP T ops S K p e w->
  (∀e' a' w',K e' w'->aD N e' a'->a'.defers=a.defers->du (dsts ops.toList) a a'->Q0 .normal a' w')->
  (top=true->wpAnyH T.P .any ops Q0 S f L a w)/\(top=false->∀f',f=f'+1->∀i∈q,wpOp T.P ops Q0 i (λa' w'=>S w'/\wpAnyH T.P .any ops Q0 S f' (L.setIfInBounds i true) a' w') a w):=by
 have ql:∀{p:Pl} {f:Nat} {L:Array Bool} {a:Act} {i:Nat} {o:Oper} {e1:Env} {y:SV} {w1:World},
   (∀(f:Nat) (L:Array Bool) (q:List Nat) (top:Bool) (e:Env) (a:Act) (w:World),plC T ops false p f L q top=true->(top=true->q=Region.ready .any ops L)->aD N e a->S w->vcP T ops S K p e w->
    (∀e' a' w',K e' w'->aD N e' a'->a'.defers=a.defers->du (dsts ops.toList) a a'->Q0 .normal a' w')->
    (top=true->wpAnyH T.P .any ops Q0 S f L a w)/\(top=false->∀f',f=f'+1->∀i∈q,wpOp T.P ops Q0 i (λa' w'=>S w'/\wpAnyH T.P .any ops Q0 S f' (L.setIfInBounds i true) a' w') a w))->
   (∀e' a' w',K e' w'->aD N e' a'->a'.defers=a.defers->du (dsts ops.toList) a a'->Q0 .normal a' w')->
   ops[i]?=some o->plC T ops false p f (L.setIfInBounds i true) (Region.ready .any ops (L.setIfInBounds i true)) true=true->aD N e1 a->S w1->vcP T ops S K p (bindDst o.dst y e1) w1->
   wpAnyH T.P .any ops Q0 S f (L.setIfInBounds i true) (a.put o.dst y.val) w1:=by
  intro p f L a i o e1 y w1 ih W hi H G θ h1;refine(ih f _ _ true _ _ _ H (λ _=>rfl) (G.bind (xT δ hi).1) θ h1 λe' a' w' V ε ι κ=>W e' a' w' V ε (ι.trans ?_) ((du.put a o.dst y.val _ (xT δ hi).2).trans κ)).1 rfl;cases o.dst<;>rfl
 intro p
 induction p with
 | done=>
  intro f L q top e a w H hq J Z h W;have μ:q=[]:=by simpa [plC]using H
  subst μ;exact⟨λht=>wpAnyH_done (hq ht).symm (W e a w h J rfl (du.refl _ _)) _,λ _ _ _ i hi=>by cases hi⟩
 | lt i p ih=>
  intro f L q top e a w H hq J Z h W;cases f with
  | zero=>simp [plC]at H
  | succ f=>
   simp only [plC,Mp]at H;obtain⟨⟨⟨⟨ht,α⟩,ν⟩,_⟩,H⟩:=H;refine⟨λ _=>?_,λh0=>by rw [h0]at ht;cases ht⟩;rw [hq ht]at α;obtain⟨o,hi,h⟩:=bM h;rw [pw,dU]at hi;have take:∀{v:Value},YieldsIf T.P ops S o v a->wpAnyH T.P .any ops Q0 S f (L.setIfInBounds i true) (a.put o.dst v) w->wpAnyH T.P .any ops Q0 S (f+1) L a w:=by
    intro v hy hw;exact wpAnyH_take hi γ ν (by simpa using α) (λc a w hq=>absurd hq (η c _ _)) hy Z hw
   refine dY J h (λe1 G h1 hw=>?_) (λe1 G h1 hw=>?_)
   ·cases ζ:isLoad o with
    | true=>
     rw [ζ]at h1;obtain⟨y,V,hr⟩:=vU G h1;rw [cn]at V;exact take (.inl ⟨hw,hr⟩) (ql ih W hi H G Z V)
    | false=>
     rw [ζ]at h1;obtain⟨y,V,hr⟩:=pure_run G h1;rw [cn]at V;exact take (.inl ⟨hw,λw _=>hr w⟩) (ql ih W hi H G Z V)
   ·rw [cn]at h1;exact take (v:=undef) (.inr ⟨hw,rfl⟩) (ql (y:= .un) ih W hi H G Z h1)
 | one k i p ih=>
  intro f L q top e a w H hq J Z h W;cases f with
  | zero=>simp [plC]at H
  | succ f=>
   simp only [plC,Mp,OY]at H;obtain⟨⟨ξ,V⟩,H⟩:=H;have β:k= .h:=by cases k<;>first | rfl | cases V
   subst β;subst ξ;have key:wpOp T.P ops Q0 i (λa' w'=>S w'/\wpAnyH T.P .any ops Q0 S f (L.setIfInBounds i true) a' w') a w:=by
    obtain⟨o,hi,h⟩:=bM h;rw [pw,dU]at hi;unfold wpOp;simp only [hi];refine dY J h (λe1 G h2 hw=>?_) (λe1 G h2 hw=>?_)
    ·rw [MZ hw];left;refine n8 G h2 _ _ λy w' V=>?_
     obtain⟨h3,h4⟩:=V;rw [cn]at h4;exact⟨h3,ql ih W hi H G h3 h4⟩
    ·rw [MJ (by rw [hw];simp)];simp only [oI,cn]at h2;exact⟨Z,ql (y:= .un) ih W hi H G Z h2⟩
   refine⟨λht=>wpAnyH_all (hq ht).symm (by simp) λj hj=>?_,λ _ f' hf j hj=>?_⟩
   ·rw [MA.1 hj];exact key
   ·cases hf;rw [MA.1 hj];exact key
 | br k i p r ih ο=>
  intro f L q top e a w H hq J Z h W;cases f with
  | zero=>simp [plC]at H
  | succ f=>
   cases q with
   | nil=>simp [plC]at H
   | cons j q=>
    simp only [plC,Mp,OY]at H;obtain⟨⟨⟨ς,V⟩,H⟩,υ⟩:=H;have β:k= .h:=by cases k<;>first | rfl | cases V
    subst β;subst ς;obtain⟨h,hr⟩:=h;have key:wpOp T.P ops Q0 j (λa' w'=>S w'/\wpAnyH T.P .any ops Q0 S f (L.setIfInBounds j true) a' w') a w:=by
     obtain⟨o,hi,h⟩:=bM h;rw [pw,dU]at hi;unfold wpOp;simp only [hi];refine dY J h (λe1 G h2 hw=>?_) (λe1 G h2 hw=>?_)
     ·rw [MZ hw];left;refine n8 G h2 _ _ λy w' V=>?_
      obtain⟨h3,h4⟩:=V;rw [cn]at h4;exact⟨h3,ql ih W hi H G h3 h4⟩
     ·rw [MJ (by rw [hw];simp)];simp only [oI,cn]at h2;exact⟨Z,ql (y:= .un) ih W hi H G Z h2⟩
    have rest:=(ο (f+1) L q false e a w υ (λh=>by cases h) J Z hr W).2 rfl f rfl;have all:∀i∈j::q,wpOp T.P ops Q0 i (λa' w'=>S w'/\wpAnyH T.P .any ops Q0 S f (L.setIfInBounds i true) a' w') a w:=by
     intro i hi;cases hi with
     | head=>exact key
     | tail _ hi=>exact rest i hi
    exact⟨λht=>wpAnyH_all (hq ht).symm (by simp) all,λ _ f' hf=>by cases hf;exact all⟩
end
def xi (ops:Array Oper)(S:PV)(G:Array Bool)(w:World):Prop:=∀l ol,ops[l]?=some ol->isLoad ol=true->G.getD l true=false->S w
theorem xi.less {ops:Array Oper}{S:PV}{G:Array Bool}{w:World}(h:xi ops S G w)(j:Nat):xi ops S (G.setIfInBounds j true) w:=by
 intro l ol W Z J;refine h l ol W Z ?_;by_cases H:j=l
 ·subst H;rcases N2 j G.size with V | V
  ·simp [Array.getD,V]at J
  ·simp [Array.getD,Nat.not_lt.2 V]at J
 ·rw [getD_set_ne true H]at J;exact J
section
variable {T:dJ} {N:Nat} {ops:Array Oper} {S:PV} {K:Env->PV} {Q0:Exit->Act->PV}
theorem DA (η:Region.noSelect ops=true)(θ:okOps N ops.toList=true)(ς:∀c a w,¬Q0 (.panic c) a w):∀(p:Pl) (f:Nat) (L:Array Bool) (q:List Nat) (top:Bool) (e:Env) (a:Act) (w:World),
  plC T ops true p f L q top=true->(∀i∈q,i∈Region.ready .any ops L)->(top=true->q=Region.ready .any ops L)->aD N e a->xi ops S L w->vcP T ops S K p e w->
  (∀Z a' w',K Z w'->aD N Z a'->a'.defers=a.defers->du (dsts ops.toList) a a'->Q0 .normal a' w')->
  (top=true->dC T.P ops (ir T ops) Q0 S f L a w)/\(top=false->∀f',f=f'+1->∀i∈q,wpOp T.P ops Q0 i (λa' w'=>(if ir T ops i=true then w'=w else jM ops i=true->S w')/\dC T.P ops (ir T ops) Q0 S f' (L.setIfInBounds i true) a' w') a w):=by
 have ql:∀{p:Pl} {f:Nat} {L:Array Bool} {a:Act} {i:Nat} {o:Oper} {e1:Env} {y:SV} {w1:World},
   (∀(f:Nat) (L:Array Bool) (q:List Nat) (top:Bool) (e:Env) (a:Act) (w:World),plC T ops true p f L q top=true->(∀i∈q,i∈Region.ready .any ops L)->(top=true->q=Region.ready .any ops L)->aD N e a->xi ops S L w->vcP T ops S K p e w->
    (∀Z a' w',K Z w'->aD N Z a'->a'.defers=a.defers->du (dsts ops.toList) a a'->Q0 .normal a' w')->
    (top=true->dC T.P ops (ir T ops) Q0 S f L a w)/\(top=false->∀f',f=f'+1->∀i∈q,wpOp T.P ops Q0 i (λa' w'=>(if ir T ops i=true then w'=w else jM ops i=true->S w')/\dC T.P ops (ir T ops) Q0 S f' (L.setIfInBounds i true) a' w') a w))->
   (∀Z a' w',K Z w'->aD N Z a'->a'.defers=a.defers->du (dsts ops.toList) a a'->Q0 .normal a' w')->
   ops[i]?=some o->plC T ops true p f (L.setIfInBounds i true) (Region.ready .any ops (L.setIfInBounds i true)) true=true->aD N e1 a->xi ops S (L.setIfInBounds i true) w1->vcP T ops S K p (bindDst o.dst y e1) w1->
   dC T.P ops (ir T ops) Q0 S f (L.setIfInBounds i true) (a.put o.dst y.val) w1:=by
  intro p f L a i o e1 y w1 ih hQ hi H G β h1;refine(ih f _ _ true _ _ _ H (λ _ h=>h) (λ _=>rfl) (G.bind (xT θ hi).1) β h1 λZ a' w' J ι υ φ=>hQ Z a' w' J ι (υ.trans ?_) ((du.put a o.dst y.val _ (xT θ hi).2).trans φ)).1 rfl;cases o.dst<;>rfl
 have alt:∀{k:KJ} {i:Nat} {p:Pl} {f:Nat} {L:Array Bool} {e:Env} {a:Act} {w:World},
   (∀{o:Oper} {e1:Env} {y:SV} {w1:World},ops[i]?=some o->aD N e1 a->xi ops S (L.setIfInBounds i true) w1->vcP T ops S K p (bindDst o.dst y e1) w1->dC T.P ops (ir T ops) Q0 S f (L.setIfInBounds i true) (a.put o.dst y.val) w1)->
   kOk T ops true k i=true->i∈Region.ready .any ops L->aD N e a->xi ops S L w->
   (optK (ma (mG ops) i) λo=>mV ops e o (λZ=>Ax T Z o w λy w'=>runK k (S w') (bindK (En o) y Z λe1=>vcP T ops S K p e1 w')) (λZ=>oI k (S w) (bindK (En o) .un Z λe1=>vcP T ops S K p e1 w)))->
   wpOp T.P ops Q0 i (λa' w'=>(if ir T ops i=true then w'=w else jM ops i=true->S w')/\dC T.P ops (ir T ops) Q0 S f (L.setIfInBounds i true) a' w') a w:=by
  intro k i p f L e a w next J χ V hS h;obtain⟨o,hi,h⟩:=bM h;rw [pw,dU]at hi;have κ:¬ir T ops i=true:=by
   cases k<;>simp [kOk]at J
   ·rw [J];simp
   ·rw [J.1];simp
  have ψ:∀{X Y:Prop},runK k X Y->(jM ops i=true->X)/\Y:=by
   intro X Y h;cases k with
   | h=>cases J
   | g=>exact⟨λ _=>h.1,h.2⟩
   | n=>simp [kOk]at J;exact⟨λhh=>(by rw [J.2]at hh;cases hh),h⟩
  have ω:∀{X Y:Prop},oI k X Y->(jM ops i=true->X)/\Y:=by
   intro X Y h;cases k with
   | h=>cases J
   | g=>exact⟨λ _=>h.1,h.2⟩
   | n=>simp [kOk]at J;exact⟨λhh=>(by rw [J.2]at hh;cases hh),h⟩
  obtain⟨_,oi,μ,ν⟩:=mem_ready.1 χ;rw [hi]at μ;cases μ;unfold wpOp;simp only [hi];refine dY V h (λe1 G h2 hw=>?_) (λe1 G h2 hw=>?_)
  ·rw [MZ hw];left;refine n8 G h2 _ _ λy w' J=>?_
   obtain⟨ε,γ⟩:=ψ J;rw [cn]at γ;rw [MJ κ];have inv:(jM ops i=true->S w')->xi ops S (L.setIfInBounds i true) w':=by
    intro hs l ol k1 k2 k3;refine hs (y4 k1 hi k2 λe he hb heq=>?_);have h4:=ν e he hb;rw [heq]at h4;by_cases ξ:i=l
    ·subst ξ;rcases N2 i L.size with h' | h'
     ·simp [Array.getD,h']at k3
     ·simp [Array.getD,Nat.not_lt.2 h']at k3
    ·rw [getD_set_ne true ξ]at k3;rcases N2 l L.size with h' | h'
     ·simp [Array.getD,h']at k3 h4;rw [k3]at h4;cases h4
     ·simp [Array.getD,Nat.not_lt.2 h']at k3
   exact⟨ε,next hi G (inv ε) γ⟩
  ·rw [MJ (by rw [hw];simp),MJ κ];obtain⟨ε,γ⟩:=ω h2;rw [cn]at γ;exact⟨ε,next (y:= .un) hi G (hS.less i) γ⟩
 intro p
 induction p with
 | done=>
  intro f L q top e a w H α hq V hS h hQ;have hq0:q=[]:=by simpa [plC]using H
  subst hq0;refine⟨λht=>?_,λ _ _ _ i hi=>by cases hi⟩;have hr:=(hq ht).symm;have ο:=hQ e a w h V rfl (du.refl _ _);cases f with
  | zero=>exact⟨hr,ο⟩
  | succ f=>exact⟨λ _=>ο,λi hi=>by rw [hr]at hi;cases hi⟩
 | lt i p ih=>
  intro f L q top e a w H α hq V hS h hQ;cases f with
  | zero=>simp [plC]at H
  | succ f=>
   simp only [plC,Mp]at H;obtain⟨⟨⟨⟨ht,W⟩,hfr⟩,ζ⟩,H⟩:=H;have ζ:ir T ops i=true:=by simpa using ζ
   refine⟨λ _=>?_,λh0=>by rw [h0]at ht;cases ht⟩;rw [hq ht]at W;have W:i∈Region.ready .any ops L:=by simpa using W
   obtain⟨o,hi,h⟩:=bM h;rw [pw,dU]at hi;have hSi:isLoad o=true->S w:=λδ=>hS i o hi δ (mem_ready.1 W).1
   have take:∀{v:Value},YieldsIf T.P ops (λw=>isLoad o=true->S w) o v a->dC T.P ops (ir T ops) Q0 S f (L.setIfInBounds i true) (a.put o.dst v) w->dC T.P ops (ir T ops) Q0 S (f+1) L a w:=by
    intro v hy hw;exact vW hi ζ (Region.noSelect_spec η) (λc a w hq=>absurd hq (ς c _ _)) f L a w (Region.free_spec hi hfr) W hy hSi hw
   refine dY V h (λe1 G h1 hw=>?_) (λe1 G h1 hw=>?_)
   ·cases δ:isLoad o with
    | true=>
     rw [δ]at h1;obtain⟨y,J,hr⟩:=vU G h1;rw [cn]at J;exact take (.inl ⟨hw,λw hs=>hr w (hs δ)⟩) (ql ih hQ hi H G (hS.less i) J)
    | false=>
     rw [δ]at h1;obtain⟨y,J,hr⟩:=pure_run G h1;rw [cn]at J;exact take (.inl ⟨hw,λw _=>hr w⟩) (ql ih hQ hi H G (hS.less i) J)
   ·rw [cn]at h1;exact take (v:=undef) (.inr ⟨hw,rfl⟩) (ql (y:= .un) ih hQ hi H G (hS.less i) h1)
 | one k i p ih=>
  intro f L q top e a w H α hq V hS h hQ;cases f with
  | zero=>simp [plC]at H
  | succ f=>
   simp only [plC,Mp,OY]at H;obtain⟨⟨hqi,J⟩,H⟩:=H;subst hqi;have key:=alt (f:=f) (λhi G β h1=>ql ih hQ hi H G β h1) J (α i (by simp)) V hS h;have all:∀j∈[i],wpOp T.P ops Q0 j (λa' w'=>(if ir T ops j=true then w'=w else jM ops j=true->S w')/\dC T.P ops (ir T ops) Q0 S f (L.setIfInBounds j true) a' w') a w:=by
    intro j hj;rw [MA.1 hj];exact key
   refine⟨λht=>⟨λh0=>?_,λj hj=>all j (by rw [hq ht];exact hj)⟩,λ _ f' hf=>by cases hf;exact all⟩;rw [<-hq ht]at h0;cases h0
 | br k i p r ih ihr=>
  intro f L q top e a w H α hq V hS h hQ;cases f with
  | zero=>simp [plC]at H
  | succ f=>
   cases q with
   | nil=>simp [plC]at H
   | cons j q=>
    simp only [plC,Mp,OY]at H;obtain⟨⟨⟨hji,J⟩,H⟩,hpr⟩:=H;subst hji;obtain⟨h,hr⟩:=h;have key:=alt (f:=f) (λhi G β h1=>ql ih hQ hi H G β h1) J (α j (by simp)) V hS h;have rest:=(ihr (f+1) L q false e a w hpr (λi hi=>α i (by simp [hi])) (λh=>by cases h) V hS hr hQ).2 rfl f rfl;have all:∀i∈j::q,wpOp T.P ops Q0 i (λa' w'=>(if ir T ops i=true then w'=w else jM ops i=true->S w')/\dC T.P ops (ir T ops) Q0 S f (L.setIfInBounds i true) a' w') a w:=by
     intro i hi;cases hi with
     | head=>exact key
     | tail _ hi=>exact rest i hi
    refine⟨λht=>⟨λh0=>?_,λi hi=>all i (by rw [hq ht];exact hi)⟩,λ _ f' hf=>by cases hf;exact all⟩;rw [<-hq ht]at h0;cases h0
end
inductive XE where
 | normal | exit (id:Nat) | ret
def XE.toExit:XE->Exit
 | .normal=> .normal | .exit id=> .exit id | .ret=> .ret
@[reducible] def JV:Code->Nat
 | .region id _ _=>id
 | .seq a _=>JV a
 | .cond _ a _=>JV a
 | .block _ c=>JV c
 | .loop c=>JV c
 | _=>1000000
@[reducible] def writes:Code->List Nat
 | .region _ ops _=>dsts (mG ops)
 | .seq a b=>zK (writes a) (writes b)
 | .cond _ a b=>zK (writes a) (writes b)
 | .block _ c=>writes c
 | .loop c=>writes c
 | _=>[]
structure Dl where
 loops:Nat->Option (List (Nat×Kd))
 cuts:Nat->Option (List (Nat×Kd))
 late:Nat->Option (Bool×Pl)
@[reducible] def Dl.L (A:Dl) (n:Nat):Option (List (Nat×Kd)):=match A with
 | ⟨l,_,_⟩=>l n
@[reducible] def Dl.C (A:Dl) (n:Nat):Option (List (Nat×Kd)):=match A with
 | ⟨_,c,_⟩=>c n
@[reducible] def Dl.T (A:Dl) (n:Nat):Option (Bool×Pl):=match A with
 | ⟨_,_,t⟩=>t n
@[reducible] def BY (L:List (Nat×Kd)):List Kd:=mapR LG L
@[reducible] def valsOf (e:Env):List (Nat×Kd)->Option (List SV)
 | []=>some []
 | (t,_)::L=>match look e t,valsOf e L with
  | some x,some xs=>some (x::xs)
  | _,_=>none
@[reducible] def Es:List (Nat×Kd)->List SV->Env
 | (t,_)::L,x::xs=>(t,x)::Es L xs
 | _,_=>[]
@[reducible] def keepE (ws:List Nat):Env->Env
 | []=>[]
 | (t,x)::e=>match hasR ws t with
  | true=>keepE ws e
  | false=>(t,x)::keepE ws e
def forceE:Env->(Env->Prop)->Prop
 | [],k=>k []
 | x::e,k=>forceE e λG=>k (x::G)
theorem p9:∀(e:Env) (k:Env->Prop),forceE e k=k e
 | [],_=>rfl
 | x::e,k=>by rw [forceE,p9 e]
abbrev CurN:List Kd->Type
 | []=>World->Nat
 | k::L=>k.T->CurN L
def CurN.app:(L:List Kd)->CurN L->List SV->World->Nat
 | [],m,_,w=>m w
 | k::L,m,x::xs,w=>optN (k.un x) λt=>CurN.app L (m t) xs w
 | _::_,_,[],_=>0
def IF (L:List (Nat×Kd))(R:Cur (BY L))(e:Env)(w:World):Prop:=optK (valsOf e L) λxs=>Cur.app (BY L) R xs w
def okCode (T:dJ)(A:Dl)(N:Nat):Code->Bool
 | .region _ ops false=>okOps N ops.toList
 | .region id ops true=>okOps N ops.toList&&Region.noSelect ops&&(match A.T id with
  | some (late,p)=>plC T ops late p ops.size (Array.replicate ops.size false) (Region.ready .any ops (Array.replicate ops.size false)) true
  | none=>false)
 | .seq a b=>okCode T A N a&&okCode T A N b
 | .cond _ a b=>okCode T A N a&&okCode T A N b
 | .block _ c=>okCode T A N c
 | .loop c=>okCode T A N c
 | _=>true
def xK:XE->Prop->Prop->(Nat->Prop)->Prop
 | .normal,a,_,_=>a
 | .ret,_,b,_=>b
 | .exit i,_,_,k=>k i
def cutK {α:Type}:Option α->Prop->(α->Prop)->Prop
 | none,a,_=>a
 | some x,_,k=>k x
def condK:Option SV->Prop->Prop->Prop
 | some .tt,a,_=>a
 | some .ff,_,b=>b
 | some (.b x),a,b=>(x=true->a)/\(x=false->b)
 | _,_,_=>False
def planK:Option (Bool×Pl)->(Pl->Prop)->Prop
 | some (_,p),k=>k p
 | none,_=>False
def vc (T:dJ)(A:Dl):Code->Env->World->(XE->Env->PV)->Prop
 | .skip,e,w,Q=>Q .normal e w
 | .region _ ops false,e,w,Q=>vcOps T ops (λG w'=>Q .normal G w') (mG ops) e w
 | .region id ops true,e,w,Q=>planK (A.T id) λp=>∃S:PV,∀w1,w1=w.drew->S w1/\vcP T ops S (λG w'=>Q .normal G w') p e w1
 | .seq a b,e,w,Q=>cutK (A.C (JV b))
   (vc T A a e w λx G w'=>xK x (vc T A b G w' Q) (Q .ret G w') λi=>Q (.exit i) G w')
   (λL=>∃J:Cur (BY L),(vc T A a e w λx G w'=>xK x (IF L J G w') (Q .ret G w') λi=>Q (.exit i) G w')/\
    AllT (BY L) λxs=>∀w',Cur.app (BY L) J xs w'->forceE (zK (Es L xs) (keepE (writes a) e)) λV=>vc T A b V w' Q)
 | .cond c a b,e,w,Q=>condK (ev e c) (vc T A a e w Q) (vc T A b e w Q)
 | .block id c,e,w,Q=>vc T A c e w λx G w'=>xK x (Q .normal G w') (Q .ret G w') λi=>boolK (beqR i id) (Q .normal G w') (Q (.exit i) G w')
 | .loop c,e,w,Q=>optK (A.L (JV c)) λL=>∃(I:Cur (BY L)) (m:CurN (BY L)),IF L I e w/\AllT (BY L) λxs=>∀w',Cur.app (BY L) I xs w'->
    forceE (zK (Es L xs) (keepE (writes c) e)) λV=>vc T A c V w' λx H w''=>
     xK x (IF L I H w''/\optK (valsOf H L) λW=>CurN.app (BY L) m W w''< CurN.app (BY L) m xs w') (Q .ret H w'') λi=>Q (.exit i) H w''
 | .exit id,e,w,Q=>Q (.exit id) e w
 | .ret,e,w,Q=>Q .ret e w
 | _,_,_,_=>False
inductive RI where
 | tmp (slot:Nat) (k:Kd)
 | cell (slot t:Nat) (k:Kd)
 | agg (slot t:Nat)
@[reducible] def RI.kd:RI->Kd
 | .tmp _ k=>k
 | .cell _ _ k=>k
 | .agg _ _=> .v
@[reducible] def RI.rv:RI->ResultVar
 | .tmp s _=> .tmp s
 | .cell s t _=> .cell s t
 | .agg s t=> .cell s t
@[reducible] def nt (L:List RI):List Kd:=mapR RI.kd L
@[reducible] def LX (k:Kd):Option SV->Option k.T
 | some x=>k.un x
 | none=>none
theorem E5 {k:Kd}{x:Option SV}{t:k.T}(h:LX k x=some t):∃y,x=some y/\k.un y=some t:=by
 cases x with
 | none=>cases h
 | some y=>exact⟨y,rfl,h⟩
@[reducible] def adr? (T:dJ) (t:Nat):Option SV->Option (Nat×Nat)
 | some (.a b off)=>match single (T.U t)with
  | true=>some (b,off)
  | false=>none
 | _=>none
def adrK:Option (Nat×Nat)->(Nat->Nat->Prop)->Prop
 | some (b,off),k=>k b off
 | none,_=>False
theorem DI {T:dJ}{t:Nat}{x:Option SV}{k:Nat->Nat->Prop}(h:adrK (adr? T t x) k):∃b off,x=some (.a b off)/\single (T.und t)=true/\k b off:=by
 unfold adr? at h;split at h
 ·split at h
  ·exact⟨_,_,rfl,by assumption,h⟩
  ·exact h.elim
 ·exact h.elim
inductive AR where
 | agg (b off:Nat) (ks:List Kd) | list (b off n:Nat) | bad
@[reducible] def aggR (T:dJ) (t:Nat):Option SV->AR
 | some (.a b off)=>match xC (T.U t),cellK T t,T.I t with
  | true,some ks,some (_,n,_)=>(match Nat.beq (A1 ks) n with
   | true=> .agg b off ks
   | false=> .bad)
  | true,none,some (_,n,_)=> .list b off n
  | _,_,_=> .bad
 | _=> .bad
def runAR:AR->World->(Value->Prop)->Prop
 | .agg b off ks,w,k=>ExL ks λxs=>CellsAt w b off xs/\k (.agg (SV.aO xs).toArray)
 | .list b off n,w,k=>∃cs:List Value,cs.length=n/\(∀j,j< n->w.cell? ⟨b,off+j,none⟩=cs[j]?)/\k (.agg cs.toArray)
 | .bad,_,_=>False
def finR (T:dJ):(L:List RI)->Cur (nt L)->Env->PV
 | [],R,_,w=>R w
 | .tmp s k::L,R,e,w=>optK (LX k (look e s)) λt=>finR T L (R t) e w
 | .cell s t k::L,R,e,w=>adrK (adr? T t (look e s)) λb off=>∃x:k.T,w.cell? ⟨b,off,none⟩=some (k.sv x).val/\finR T L (R x) e w
 | .agg s t::L,R,e,w=>runAR (aggR T t (look e s)) w λv=>finR T L (R v) e w
def fin (T:dJ)(L:List RI)(R:Cur (nt L)):XE->Env->PV
 | .exit _,_,_=>False
 | .normal,e,w=>finR T L R e w
 | .ret,e,w=>finR T L R e w
attribute [go_sem] CurN
def Kd.dec:(k:Kd)->Value->k.T
 | .i,.int _ n=>n
 | .i,_=>0
 | .c,.int _ n=>UInt8.ofNat n.toNat
 | .c,_=>0
 | .w,.int _ n=>UInt32.ofNat n.toNat
 | .w,_=>0
 | .s,.string str=>str.data.toList
 | .s,_=>[]
 | .b,.bool G=>G
 | .b,_=>false
 | .v,x=>x
theorem Kd.JQ (k:Kd)(t:k.T):k.dec (k.sv t).val=t:=by
 cases k
 ·rfl
 ·show UInt8.ofNat ((t.toNat:Int)).toNat=t;simp
 ·show UInt32.ofNat ((t.toNat:Int)).toNat=t;simp
 ·show(ax t).data.toList=t;simp [ax]
 ·rfl
 ·rfl
theorem Kd.Fy (k:Kd)(t:k.T):k.un (k.sv t)=some t:=by cases k<;>rfl
def Typed:List Kd->List SV->Prop
 | [],[]=>True
 | k::L,x::xs=>(∃t:k.T,x=k.sv t)/\Typed L xs
 | _,_=>False
theorem AllT.get:∀{L:List Kd} {K:List SV->Prop},AllT L K->∀{xs:List SV},Typed L xs->K xs
 | [],K,h,[],_=>h
 | [],K,h,_::_,G=>G.elim
 | k::L,K,h,[],G=>G.elim
 | k::L,K,h,x::xs,G=>by
  obtain⟨⟨t,H⟩,G⟩:=G;subst H;exact AllT.get (h t) G
theorem canon:∀{L:List Kd} {R:Cur L} {xs:List SV} {w:World},Cur.app L R xs w->
  ∃zs,Typed L zs/\SV.aO zs=SV.aO xs/\Cur.app L R zs w/\∀(m:CurN L) (w':World),CurN.app L m zs w'=CurN.app L m xs w'
 | [],R,[],w,h=>⟨[],trivial,rfl,h,λ _ _=>rfl⟩
 | [],R,_::_,w,h=>h.elim
 | k::L,R,[],w,h=>h.elim
 | k::L,R,x::xs,w,h=>by
  rw [Cur.app]at h;obtain⟨t,G,h⟩:=bM h
  ·obtain⟨zs,H,J,V,h4⟩:=canon h;refine⟨k.sv t::zs,⟨⟨t,rfl⟩,H⟩,by simp [SV.aO,J,Kd.BK G],?_,λm w'=>?_⟩
   ·rw [Cur.app,Kd.Fy];exact V
   ·rw [CurN.app,CurN.app,Kd.Fy,G];exact h4 _ _
def Reads (a:Act):List (Nat×Kd)->List SV->Prop
 | [],[]=>True
 | (t,_)::L,x::xs=>a.tmps.getD t undef=x.val/\Reads a L xs
 | _,_=>False
theorem Reads.ry {N:Nat}{e:Env}{a:Act}(G:aD N e a):∀{L:List (Nat×Kd)} {xs:List SV},valsOf e L=some xs->Reads a L xs
 | [],xs,h=>by cases h;trivial
 | (t,k)::L,xs,h=>by
  unfold valsOf at h;split at h
  ·rename_i x V H J;cases h;exact⟨G.2 _ _ H,Reads.ry G J⟩
  ·cases h
theorem Reads.congr {a:Act}:∀{L:List (Nat×Kd)} {xs G:List SV},Reads a L xs->SV.aO G=SV.aO xs->Reads a L G
 | [],[],[],_,_=>trivial
 | [],[],_::_,_,h=>by simp [SV.aO]at h
 | _::_,[],_,h,_=>h.elim
 | [],_::_,_,h,_=>h.elim
 | (t,k)::L,x::xs,[],_,h=>by simp [SV.aO]at h
 | (t,k)::L,x::xs,y::G,⟨H,J⟩,h=>by
  simp only [SV.aO,Nj]at h;exact⟨H.trans h.1.symm,Reads.congr J h.2⟩
theorem aD.zip {N:Nat}{e:Env}{a:Act}(G:aD N e a):∀{L:List (Nat×Kd)} {xs:List SV},Reads a L xs->aD N (Es L xs++e) a
 | [],[],_=>G
 | [],_::_,h=>h.elim
 | _::_,[],h=>h.elim
 | (t,k)::L,x::xs,⟨J,V⟩=>by
  have W:=aD.zip G V;refine⟨G.1,λu y H=>?_⟩;simp only [Es,Ns,look]at H;split at H
  ·rename_i heq;have :=jZ heq;subst this;cases H;exact J
  ·exact W.2 u y H
theorem pa {ws:List Nat}{t:Nat}:∀{e:Env} {x:SV},look (keepE ws e) t=some x->t∉ws/\look e t=some x
 | [],x,h=>by simp [keepE,look]at h
 | (u,y)::e,x,h=>by
  unfold keepE at h;split at h
  ·rename_i hu;have :=pa (e:=e) h;refine⟨this.1,?_⟩;simp only [look];rw [re]at hu;have G:u∈ws:=by simpa using hu
   have H:u≠t:=λhe=>this.1 (he▸G)
   split
   ·exact absurd (jZ (by assumption)) H
   ·exact this.2
  ·rename_i hu;rw [re]at hu;simp only [look]at h|-;split at h
   ·rename_i heq;have :=jZ heq;subst this;exact⟨by simpa using hu,h⟩
   ·exact pa (e:=e) h
theorem aD.Ah {N:Nat}{e:Env}{a a':Act}{ws:List Nat}(G:aD N e a)(H:du ws a a')(J:a'.tmps.size=N):aD N (keepE ws e) a':=
 ⟨J,λt x V=>by obtain⟨W,Z⟩:=pa V;rw [H t W];exact G.2 t x Z⟩
def decs (a:Act):List (Nat×Kd)->List SV
 | []=>[]
 | (t,k)::L=>k.sv (k.dec (a.tmps.getD t undef))::decs a L
theorem wQ {a:Act}:∀{L:List (Nat×Kd)} {xs:List SV},Typed (BY L) xs->Reads a L xs->decs a L=xs
 | [],[],_,_=>rfl
 | [],_::_,_,h=>h.elim
 | _::_,[],_,h=>h.elim
 | (t,k)::L,x::xs,⟨⟨y,G⟩,H⟩,⟨J,V⟩=>by
  simp only [decs];rw [wQ H V,J,G,Kd.JQ]
theorem G2 {T:dJ}{A:Dl}{N:Nat}:∀(c:Code) (e:Env) (a:Act) (w:World) (Q:XE->Env->PV) (Q':Exit->Act->PV),
  aD N e a->okCode T A N c=true->vc T A c e w Q->
  (∀x W a' w',Q x W w'->aD N W a'->a'.defers=a.defers->du (writes c) a a'->Q' x.toExit a' w')->c.wp T.P Q' a w:=by
 intro c
 induction c with
 | skip=>intro e a w Q Q' G _ h V;exact wp_skip (V .normal e a w h G rfl (du.refl _ _))
 | exit id=>intro e a w Q Q' G _ h V;exact wp_exit (V (.exit id) e a w h G rfl (du.refl _ _))
 | ret=>intro e a w Q Q' G _ h V;exact wp_ret (V .ret e a w h G rfl (du.refl _ _))
 | region id ops draw=>
  intro e a w Q Q' G H h V;cases draw with
  | true=>
   unfold vc at h;simp only [okCode,Mp]at H;obtain⟨⟨H,ε⟩,ζ⟩:=H;cases hT:A.T id with
   | none=>rw [hT]at h;exact h.elim
   | some lp=>
    obtain⟨late,p⟩:=lp;rw [hT]at h ζ;obtain⟨S,h⟩:=h;obtain⟨hS,h⟩:=h _ rfl;have Z:(Code.region id ops true).wp T.P (λx a' w'=>x= .normal/\Q' .normal a' w') a w:=by
     cases late with
     | true=>exact wp_region_any T.mixed (tR _ _ _ _ ((DA ε H (λc a w hq=>by cases hq.1) p _ _ _ true e a _ ζ (λ _ h=>h) (λ _=>rfl) G (λ _ _ _ _ _=>hS) h λW a' w' hk α hd hs=>⟨rfl,V .normal W a' w' hk α hd hs⟩).1 rfl))
     | false=>exact wp_region_held (S:=S) T.mixed ((Ea ε H (λc a w hq=>by cases hq.1) p _ _ _ true e a _ ζ (λ _=>rfl) G hS h λW a' w' hk α hd hs=>⟨rfl,V .normal W a' w' hk α hd hs⟩).1 rfl)
    refine wp_mono Z λx a' w' hx=>?_
    obtain⟨rfl,hx⟩:=hx;exact hx
  | false=>
   unfold vc at h;exact wp_region_list (pz _ _ _ _ G H h λW a' w' hk α hd hs=>V .normal W a' w' hk α hd hs)
 | cond c x y β γ=>
  intro e a w Q Q' G H h V;simp only [okCode,Mp]at H;have gx:vc T A x e w Q->x.wp T.P Q' a w:=λh=>β e a w Q Q' G H.1 h λz W a' w' hz Z h2 h3=>V z W a' w' hz Z h2 (h3.mono λt ht=>by simp [writes,gK,ht])
  have gy:vc T A y e w Q->y.wp T.P Q' a w:=λh=>γ e a w Q Q' G H.2 h λz W a' w' hz Z h2 h3=>V z W a' w' hz Z h2 (h3.mono λt ht=>by simp [writes,gK,ht])
  unfold vc condK at h;split at h
  ·rename_i hc;exact wp_cond_true (aG G hc) (gx h)
  ·rename_i hc;exact wp_cond_false (aG G hc) (gy h)
  ·rename_i b hc;exact wp_cond_split (t:=b) (aG G hc) (λht=>gx (h.1 ht)) (λhf=>gy (h.2 hf))
  ·exact h.elim
 | block id c ih=>
  intro e a w Q Q' G H h V;refine wp_block (ih e a w _ _ G H h λx W a' w' hx Z h2 h3=>?_);cases x with
  | normal=>exact V .normal W a' w' hx Z h2 h3
  | ret=>exact V .ret W a' w' hx Z h2 h3
  | exit i=>
   simp only [XE.toExit,Exit.inBlock];simp only [xK,Ig]at hx;cases hi:Nat.beq i id with
   | true=>rw [hi]at hx;rw [MZ (jZ hi)];exact V .normal W a' w' hx Z h2 h3
   | false=>
    rw [hi]at hx;rw [MJ (λe=>by rw [e,Nat.beq_refl]at hi;cases hi)];exact V (.exit i) W a' w' hx Z h2 h3
 | seq x y β γ=>
  intro e a w Q Q' G H h V;simp only [okCode,Mp]at H;have sx:∀t,t∈writes x->t∈writes (x.seq y):=λt ht=>by simp [writes,gK,ht]
  have sy:∀t,t∈writes y->t∈writes (x.seq y):=λt ht=>by simp [writes,gK,ht]
  unfold vc at h;cases hL:A.C (JV y)with
  | none=>
   rw [hL]at h;refine wp_seq (β e a w _ _ G H.1 h λz W a' w' hz Z h2 h3=>?_);cases z with
   | normal=>exact γ W a' w' Q Q' Z H.2 hz λz' e2 a2 w2 η k1 k2 k3=>V z' e2 a2 w2 η k1 (k2.trans h2) ((h3.mono sx).trans (k3.mono sy))
   | ret=>exact V .ret W a' w' hz Z h2 (h3.mono sx)
   | exit i=>exact V (.exit i) W a' w' hz Z h2 (h3.mono sx)
  | some L=>
   rw [hL]at h;obtain⟨J,hx,hy⟩:=h;refine wp_seq (β e a w _ _ G H.1 hx λz W a' w' hz Z h2 h3=>?_);cases z with
   | normal=>
    obtain⟨xs,θ,hz⟩:=bM hz
    ·obtain⟨zs,t1,t2,t3,_⟩:=canon hz;have δ:=(Reads.ry Z θ).congr t2;have hy:=hy.get t1 w' t3;rw [p9,gK]at hy;exact γ _ a' w' Q Q' ((G.Ah h3 Z.1).zip δ) H.2 hy λz' e2 a2 w2 η k1 k2 k3=>V z' e2 a2 w2 η k1 (k2.trans h2) ((h3.mono sx).trans (k3.mono sy))
   | ret=>exact V .ret W a' w' hz Z h2 (h3.mono sx)
   | exit i=>exact V (.exit i) W a' w' hz Z h2 (h3.mono sx)
 | loop c ih=>
  intro e a w Q Q' G H h V;unfold vc at h;obtain⟨L,hL,h⟩:=bM h
  ·obtain⟨I,m,h0,hr⟩:=h;refine wp_loop (λa' w'=>∃xs,Typed (BY L) xs/\Reads a' L xs/\Cur.app (BY L) I xs w'/\a'.tmps.size=N/\a'.defers=a.defers/\du (writes c) a a') (λa' w'=>CurN.app (BY L) m (decs a' L) w') ?_ ?_
   ·obtain⟨xs,θ,h0⟩:=bM h0
    ·obtain⟨zs,t1,t2,t3,_⟩:=canon h0;exact⟨zs,t1,(Reads.ry G θ).congr t2,t3,G.1,rfl,du.refl _ _⟩
   ·rintro a1 w1 ⟨xs,t1,t2,t3,hN,hd,hs⟩
    have hr:=hr.get t1 w1 t3;rw [p9,gK]at hr;refine ih _ a1 w1 _ _ ((G.Ah hs hN).zip t2) H hr λz W a' w' hz Z h2 h3=>?_
    cases z with
    | normal=>
     obtain⟨ι,κ⟩:=hz;obtain⟨ys,μ,ι⟩:=bM ι
     ·rw [μ]at κ;obtain⟨zs,u1,u2,u3,u4⟩:=canon ι;have δ:=(Reads.ry Z μ).congr u2;refine⟨⟨zs,u1,δ,u3,Z.1,h2.trans hd,hs.trans h3⟩,?_⟩;rw [wQ u1 δ,wQ t1 t2,u4];exact κ
    | ret=>exact V .ret W a' w' hz Z (h2.trans hd) (hs.trans h3)
    | exit i=>exact V (.exit i) W a' w' hz Z (h2.trans hd) (hs.trans h3)
 | rangeFunc=>intro e a w Q Q' G _ h V;exact h.elim
 | scope=>intro e a w Q Q' G _ h V;exact h.elim
 | label=>intro e a w Q Q' G _ h V;exact h.elim
 | goto=>intro e a w Q Q' G _ h V;exact h.elim
 | refuse=>intro e a w Q Q' G _ h V;exact h.elim
theorem AY:∀{L:List Kd} {R:Cur L} {xs:List SV} {w:World} (acc G:List SV),Cur.app L R xs w->SV.aO G=SV.aO acc->
  kH L R G (.returned (valOf (acc++xs))) w
 | [],R,[],w,acc,G,h,ha=>by
  refine⟨?_,h⟩;rw [MY,js ha,<-js rfl]
 | [],R,_::_,w,acc,G,h,ha=>h.elim
 | k::L,R,[],w,acc,G,h,ha=>h.elim
 | k::L,R,x::xs,w,acc,G,h,ha=>by
  rw [Cur.app]at h;obtain⟨t,H,h⟩:=bM h
  ·refine⟨t,?_⟩;have app:∀(p q:List SV),SV.aO (p++q)=SV.aO p++SV.aO q:=by
    intro p q;induction p with
    | nil=>rfl
    | cons y p J=>simp [SV.aO,J]
   have :=AY (acc++[x]) (G++[k.sv t]) h (by rw [app,app,ha];simp [SV.aO,Kd.BK H]);simpa using this
@[reducible] def ai:Nat->List SV->Env
 | _,[]=>[]
 | n,x::xs=>(n,x)::ai (n+1) xs
theorem vk:∀{xs:List SV} {n t:Nat} {x:SV},look (ai n xs) t=some x->∃j,t=n+j/\xs[j]?=some x
 | [],n,t,x,h=>by simp [ai,look]at h
 | y::H,n,t,x,h=>by
  simp only [ai,look]at h;split at h
  ·rename_i heq;have :=jZ heq;subst this;cases h;exact⟨0,rfl,rfl⟩
  ·obtain⟨j,J,G⟩:=vk h;exact⟨j+1,by omega,by simpa using G⟩
theorem zy:∀{l:List SV} {j:Nat} {z:SV},l[j]?=some z->(SV.aO l)[j]?=some z.val
 | [],j,z,h=>by simp at h
 | p::l,0,z,h=>by simp at h;subst h;rfl
 | p::l,j+1,z,h=>by simp at h;simpa [SV.aO]using zy h
theorem yS:∀(l:List SV),(SV.aO l).length=l.length
 | []=>rfl
 | _::l=>by simp [SV.aO,yS l]
theorem oS {T:dJ}{N:Nat}{e:Env}{a:Act}{w:World}(G:aD N e a){g:ResultVar->Sem Value}
  (J:∀t,g (.tmp t)=pure (a.tmps.getD t undef)) (H:∀b t,g (.cell b t)=(do loadVar t (<-asAddr (a.tmps.getD b undef)))):
  ∀{L:List RI} {R:Cur (nt L)},finR T L R e w->∃xs,Cur.app (nt L) R xs w/\(List.mapM g (L.map RI.rv)).run T.P w= .ok (SV.aO xs) w
 | [],R,h=>⟨[],h,by simp [SV.aO]⟩
 | .tmp s k::L,R,h=>by
  rw [finR]at h;obtain⟨t,ht,h⟩:=bM h
  ·obtain⟨x,hx,β⟩:=E5 ht;obtain⟨xs,h1,h2⟩:=oS G J H h;refine⟨x::xs,?_,?_⟩
   ·show Cur.app (k::nt L) R (x::xs) w;rw [Cur.app,β];exact h1
   ·simp only [MV,List.mapM_cons,RI.rv,J,ME,MF,Ms,h2,SV.aO,G.2 _ _ hx]
 | .cell s t k::L,R,h=>by
  rw [finR]at h;obtain⟨b,off,hx,W,h⟩:=DI h
  ·obtain⟨x,Z,h⟩:=h;obtain⟨xs,h1,h2⟩:=oS G J H h;refine⟨k.sv x::xs,?_,?_⟩
   ·show Cur.app (k::nt L) R (k.sv x::xs) w;rw [Cur.app,Kd.Fy];exact h1
   ·have V:=pk W Z;simp only [Instr.loadAt,Instr.sureAddr,ME,MF,Ms]at V;have hv:=G.2 _ _ hx;simp only [MV,List.mapM_cons,RI.rv,H,ME,MF,Ms,hv,SV.val,asAddr,V,h2,SV.aO]
 | .agg s t::L,R,h=>by
  rw [finR]at h;unfold aggR at h;split at h
  ·rename_i b off hx;have key:xC (T.und t)=true->∀{n bb:Nat} {z:Value} {cs:List Value},T.inf t=some (z,n,bb)->cs.length=n->(∀j,j< n->w.cell? ⟨b,off+j,none⟩=cs[j]?)->finR T L (R (.agg cs.toArray)) e w->
     ∃xs,Cur.app (nt (.agg s t::L)) R xs w/\(List.mapM g ((.agg s t::L).map RI.rv)).run T.P w= .ok (SV.aO xs) w:=by
    intro W n bb z cs hi V Z h;obtain⟨xs,h1,h2⟩:=oS G J H h;refine⟨.v (.agg cs.toArray)::xs,h1,?_⟩;have α:=iz (iE W w) hi V Z;simp only [Instr.loadAt,Instr.sureAddr,ME,MF,Ms]at α;have hv:=G.2 _ _ hx;simp only [MV,List.mapM_cons,RI.rv,H,ME,MF,Ms,hv,SV.val,asAddr,α,h2,SV.aO]
   split at h
   ·rename_i ks z n bb W hk hi;split at h
    ·rename_i hn;have hn:=jZ hn;rw [lv]at hn;obtain⟨ys,V,Z,h⟩:=ExL.get h;exact key W hi (by rw [fY,V,hn]) (λj hj=>Z.get j (by omega)) h
    ·exact h.elim
   ·rename_i z n bb W hk hi;obtain⟨cs,V,Z,h⟩:=h;exact key W hi V Z h
   ·exact h.elim
  ·exact h.elim
theorem qa {T:dJ}{N:Nat}{e:Env}{a:Act}{fn:Func}{L:List RI}{R:Cur (nt L)}{w:World}(G:aD N e a)(hr:fn.results=(L.map RI.rv).toArray)(h:finR T L R e w):
  ∃xs,Cur.app (nt L) R xs w/\(results fn a.tmps).run T.P w= .ok (valOf xs) w:=by
 unfold results;rw [hr,List.mapM_toArray];simp only [ME,Sem.run_map];obtain⟨xs,H,J⟩:=oS G (g:=λ| ResultVar.tmp t=>pure (a.tmps.getD t undef) | .cell b t=>do loadVar t (<-asAddr (a.tmps.getD b undef))) (λ _=>rfl) (λ _ _=>rfl) h;refine⟨xs,H,?_⟩;have V:(List.mapM (m:=Sem) (λx=>match x with | ResultVar.tmp t=>pure (a.tmps.getD t undef) | .cell b t=>do let __do_lift<-asAddr (a.tmps.getD b undef);loadVar t __do_lift) (L.map RI.rv)).run T.P w= .ok (SV.aO xs) w:=J
 erw [V]
 simp only [Ms,MF]
 congr 1
 match xs with
 | []=>rfl
 | [x]=>rfl
 | x::y::W=>rfl
theorem qs {T:dJ}(A:Dl){f:Nat}{fn:Func}{c:Code}{N:Nat}{args:List SV}(L:List RI){R:Cur (nt L)}{w:World}
  (hf:T.P.funcs[f]?=some fn) (hb:fn.body=some c) (hn:fn.ntmps=N) (hr:fn.results=(L.map RI.rv).toArray)
  (G:(okCode T A N c&&decide (args.length<=N))=true) (h:vc T A c (ai 0 args) w (fin T L R)):Calls T.P f (SV.aO args).toArray w (aw (nt L) R):=by
 simp only [Mp,Mz]at G;refine calls_of_wp hf hb (G2 c _ _ w _ _ ⟨?_,?_⟩ G.1 h ?_)
 ·have :=G.2;simp [yS,hn];omega
 ·intro t x H;obtain⟨j,hj,H⟩:=vk H;have J:=zy H;have W:j< (SV.aO args).length:=by
   rcases N2 j (SV.aO args).length with h | h
   ·exact h
   ·rw [List.getElem?_eq_none h]at J;cases J
  have:t=j:=by omega
  subst this;simp only [Array.getD_eq_getD_getElem?];rw [Array.getElem?_append_left (by simpa using W),Po,J];rfl
 ·intro x e' a' w' H V hd hs;cases x with
  | exit i=>exact H.elim
  | normal=>
   obtain⟨xs,J,Z⟩:=qa V hr H;exact⟨hd,_,Z,AY [] [] J rfl⟩
  | ret=>
   obtain⟨xs,J,Z⟩:=qa V hr H;exact⟨hd,_,Z,AY [] [] J rfl⟩
set_option linter.unusedVariables false
set_option linter.constructorNameAsVariable false
theorem vX (a b c d):type_of% (@bindK.eq_1 a b c d):=rfl
theorem xY (a b c):type_of% (@bindK.eq_2 a b c):=rfl
theorem zX (a b c):type_of% (@optK.eq_1 a b c):=rfl
theorem yK (a b c):type_of% (@optN.eq_1 a b c):=rfl
theorem ze (a b):type_of% (@optN.eq_2 a b):=rfl
theorem xS (a b):type_of% (@boolK.eq_1 a b):=rfl
theorem vY (a b):type_of% (@boolK.eq_2 a b):=rfl
theorem ud (a b c):type_of% (@guardG.eq_1 a b c):=rfl
theorem uF (a b c):type_of% (@guardG.eq_2 a b c):=rfl
theorem uu (a b c d e):type_of% (@guardG.eq_3 a b c d e):=rfl
theorem uc (a b c d e):type_of% (@guardG.eq_4 a b c d e):=rfl
theorem wE (a b c d e):type_of% (@vcOps.eq_1 a b c d e):=rfl
theorem wm (a b c d e f g):type_of% (@vcOps.eq_2 a b c d e f g):=rfl
theorem qJ (a b c d e):type_of% (@runLoadH.eq_1 a b c d e):=rfl
theorem qz (a b c d e):type_of% (@runLoadH.eq_2 a b c d e):=rfl
theorem qG (a b c d e):type_of% (@runLoadH.eq_3 a b c d e):=rfl
theorem pX (a b c d e f):type_of% (@pH.eq_1 a b c d e f):=rfl
theorem Ab (a b c d e):type_of% (@runH.eq_1 a b c d e):=rfl
theorem z8 (a b c d):type_of% (@runH.eq_2 a b c d):=rfl
theorem tB (a b c d e):type_of% (@rz.eq_1 a b c d e):=rfl
theorem tZ (a b c d e):type_of% (@mV.eq_1 a b c d e):=rfl
theorem yT (a b):type_of% (@runK.eq_1 a b):=rfl
theorem zx (a b):type_of% (@runK.eq_2 a b):=rfl
theorem yA (a b):type_of% (@runK.eq_3 a b):=rfl
theorem xk (a b):type_of% (@oI.eq_1 a b):=rfl
theorem wG (a b):type_of% (@oI.eq_2 a b):=rfl
theorem xD (a b):type_of% (@oI.eq_3 a b):=rfl
theorem Br (a b c d e f):type_of% (@vcP.eq_1 a b c d e f):=rfl
theorem BZ (a b c d e f g h):type_of% (@vcP.eq_2 a b c d e f g h):=rfl
theorem BQ (a b c d e f g h i):type_of% (@vcP.eq_3 a b c d e f g h i):=rfl
theorem AK (a b c d e f g h i j):type_of% (@vcP.eq_4 a b c d e f g h i j):=rfl
theorem yc (a b c):type_of% (@planK.eq_1 a b c):=rfl
theorem DU (a b c):type_of% (@xK.eq_1 a b c):=rfl
theorem Ed (a b c):type_of% (@xK.eq_2 a b c):=rfl
theorem Dw (a b c d):type_of% (@xK.eq_3 a b c d):=rfl
theorem Ag (a b c):type_of% (@cutK.eq_1 a b c):=rfl
theorem yZ (a b c d):type_of% (@cutK.eq_2 a b c d):=rfl
theorem xQ (a b):type_of% (@condK.eq_1 a b):=rfl
theorem yi (a b):type_of% (@condK.eq_2 a b):=rfl
theorem xF (a b c):type_of% (@condK.eq_3 a b c):=rfl
theorem DM (a b c d e):type_of% (@vc.eq_1 a b c d e):=rfl
theorem Dq (a b c d e f g):type_of% (@vc.eq_2 a b c d e f g):=rfl
theorem DH (a b c d e f g):type_of% (@vc.eq_3 a b c d e f g):=rfl
theorem Dp (a b c d e f g):type_of% (@vc.eq_4 a b c d e f g):=rfl
theorem DX (a b c d e f g h):type_of% (@vc.eq_5 a b c d e f g h):=rfl
theorem DY (a b c d e f g):type_of% (@vc.eq_6 a b c d e f g):=rfl
theorem Em (a b c d e f):type_of% (@vc.eq_7 a b c d e f):=rfl
theorem DG (a b c d e f):type_of% (@vc.eq_8 a b c d e f):=rfl
theorem D7 (a b c d e):type_of% (@vc.eq_9 a b c d e):=rfl
theorem uf (a):type_of% (@forceE.eq_1 a):=rfl
theorem uJ (a b c):type_of% (@forceE.eq_2 a b c):=rfl
theorem zQ (a b c d):type_of% (@IF.eq_1 a b c d):=rfl
theorem zM (a b c):type_of% (@adrK.eq_1 a b c):=rfl
theorem xM (a b c d e):type_of% (@runAR.eq_1 a b c d e):=rfl
theorem xb (a b c d e):type_of% (@runAR.eq_2 a b c d e):=rfl
theorem Ak (a b c d):type_of% (@finR.eq_1 a b c d):=rfl
theorem Ae (a b c d e f g):type_of% (@finR.eq_2 a b c d e f g):=rfl
theorem y3 (a b c d e f g h):type_of% (@finR.eq_3 a b c d e f g h):=rfl
theorem zi (a b c d e f g):type_of% (@finR.eq_4 a b c d e f g):=rfl
theorem AM (a b c d e):type_of% (@fin.eq_2 a b c d e):=rfl
theorem Bu (a b c d e):type_of% (@fin.eq_3 a b c d e):=rfl
theorem qV (a b c):type_of% (@CurN.app.eq_1 a b c):=rfl
theorem qK (a b c d e f):type_of% (@CurN.app.eq_2 a b c d e f):=rfl
theorem qR (a b c d):type_of% (@CurN.app.eq_3 a b c d):=rfl
theorem Av (a b c d e):type_of% (@Ax.eq_1 a b c d e):=rfl
theorem yr (a b c d):type_of% (@runOR.eq_1 a b c d):=rfl
theorem wu (a b c d e):type_of% (@runOR.eq_2 a b c d e):=rfl
theorem yu (a b c d):type_of% (@runOR.eq_3 a b c d):=rfl
theorem yv (a b c d e f):type_of% (@runOR.eq_4 a b c d e f):=rfl
theorem wT (a b c d e):type_of% (@runOR.eq_5 a b c d e):=rfl
theorem xU (a b c d e f):type_of% (@runOR.eq_6 a b c d e f):=rfl
theorem wR (a b c d e):type_of% (@runOR.eq_7 a b c d e):=rfl
theorem wW (a b c d e):type_of% (@runOR.eq_8 a b c d e):=rfl
theorem ym (a b c):type_of% (@runOR.eq_9 a b c):=rfl
theorem uC (a b c d e f g):type_of% (@runOR.eq_10 a b c d e f g):=rfl
theorem uN (a b c d e f g):type_of% (@runOR.eq_11 a b c d e f g):=rfl
theorem uA (a b c d e f):type_of% (@runOR.eq_12 a b c d e f):=rfl
theorem uV (a b c d e f):type_of% (@runOR.eq_13 a b c d e f):=rfl
theorem uM (a b c d e f g h i):type_of% (@runOR.eq_14 a b c d e f g h i):=rfl
theorem uW (a b c d e):type_of% (@runOR.eq_15 a b c d e):=rfl
theorem ua (a b c d e):type_of% (@runOR.eq_16 a b c d e):=rfl
theorem uU (a b c d e):type_of% (@runOR.eq_17 a b c d e):=rfl
theorem uP (a b c d e f g):type_of% (@runOR.eq_18 a b c d e f g):=rfl
theorem uK (a b c d e f g h):type_of% (@runOR.eq_19 a b c d e f g h):=rfl
theorem uD (a b c d e):type_of% (@runOR.eq_20 a b c d e):=rfl
theorem uQ (a b c d e f):type_of% (@runOR.eq_21 a b c d e f):=rfl
theorem uE (a b c d e f):type_of% (@runOR.eq_22 a b c d e f):=rfl
theorem ur (a b c d):type_of% (@wY.eq_1 a b c d):=rfl
theorem wO (a b):type_of% (@runPR.eq_1 a b):=rfl
theorem yj (a b c):type_of% (@runPR.eq_2 a b c):=rfl
theorem yb (a b c):type_of% (@runPR.eq_3 a b c):=rfl
theorem vV (a b):type_of% (@runPR.eq_4 a b):=rfl
theorem xr (a b):type_of% (@runPR.eq_5 a b):=rfl
theorem xW (a b):type_of% (@runPR.eq_6 a b):=rfl
theorem xy (a b):type_of% (@runPR.eq_7 a b):=rfl
theorem yq (a b c):type_of% (@runPR.eq_8 a b c):=rfl
theorem wZ (a b c d):type_of% (@runPR.eq_9 a b c d):=rfl
theorem uh (a b c d e):type_of% (@runPR.eq_10 a b c d e):=rfl
theorem uv (a b):type_of% (@runPR.eq_11 a b):=rfl
theorem uB (a b c d):type_of% (@runPR.eq_12 a b c d):=rfl
theorem uw (a b):type_of% (@runPR.eq_13 a b):=rfl
theorem qW (a b c d e f):type_of% (@sT.eq_1 a b c d e f):=rfl
theorem r9 (a b c d e):type_of% (@runLoad.eq_1 a b c d e):=rfl
theorem rG (a b c d e):type_of% (@runLoad.eq_2 a b c d e):=rfl
theorem rE (a b c d e):type_of% (@runLoad.eq_3 a b c d e):=rfl
theorem pT (a b c d e f g):type_of% (@pM.eq_1 a b c d e f g):=rfl
theorem qC (a b c d e):type_of% (@runStore.eq_1 a b c d e):=rfl
theorem qL (a b c d e f):type_of% (@runStore.eq_2 a b c d e f):=rfl
theorem qS (a b c d e f):type_of% (@runStore.eq_3 a b c d e f):=rfl
theorem qD (a b c d e f g):type_of% (@tM.eq_1 a b c d e f g):=rfl
theorem BR (a b):type_of% (@Lf.eq_1 a b):=rfl
theorem Az (a):type_of% (@ExL.eq_1 a):=rfl
theorem Bg (a b c):type_of% (@ExL.eq_2 a b c):=rfl
theorem AU (a b):type_of% (@okC.eq_1 a b):=rfl
theorem Ba (a b):type_of% (@okC.eq_2 a b):=rfl
theorem BJ (a b):type_of% (@okC.eq_3 a b):=rfl
theorem BG (a b):type_of% (@okC.eq_4 a b):=rfl
theorem BI (a b):type_of% (@okC.eq_5 a b):=rfl
theorem BB (a b):type_of% (@okC.eq_6 a b):=rfl
theorem AA (a):type_of% (@okC.eq_7 a):=rfl
theorem A0 (a):type_of% (@okC.eq_8 a):=rfl
theorem BC (a b c):type_of% (@okC.eq_9 a b c):=rfl
theorem As (a b):type_of% (@okC.eq_10 a b):=rfl
theorem y8 (a b):type_of% (@okC.eq_11 a b):=rfl
theorem zN (a b):type_of% (@okC.eq_12 a b):=rfl
theorem wz (a b):type_of% (@oneOk.eq_1 a b):=rfl
theorem xR (a b):type_of% (@oneOk.eq_2 a b):=rfl
theorem wg (a b):type_of% (@oneOk.eq_3 a b):=rfl
theorem xh (a b):type_of% (@oneOk.eq_4 a b):=rfl
theorem xg (a b):type_of% (@oneOk.eq_5 a b):=rfl
theorem yx (a b):type_of% (@oneOk.eq_6 a b):=rfl
theorem xB (a):type_of% (@oneOk.eq_7 a):=rfl
theorem wH (a):type_of% (@oneOk.eq_8 a):=rfl
theorem wC (a b c):type_of% (@oneOk.eq_9 a b c):=rfl
theorem uo (a b):type_of% (@oneOk.eq_10 a b):=rfl
theorem ug (a):type_of% (@okAllC.eq_1 a):=rfl
theorem ub (a b c d):type_of% (@okAllC.eq_2 a b c d):=rfl
theorem uL (a b):type_of% (@forceL.eq_1 a b):=rfl
theorem uR (a b c d):type_of% (@forceL.eq_2 a b c d):=rfl
theorem rY (a b):type_of% (@Cur.app.eq_1 a b):=rfl
theorem te (a b c d e f):type_of% (@Cur.app.eq_2 a b c d e f):=rfl
theorem uI (a):type_of% (@Cur.mk.eq_1 a):=rfl
theorem uG (a b c):type_of% (@Cur.mk.eq_2 a b c):=rfl
theorem zC (a):type_of% (@AllT.eq_1 a):=rfl
theorem Aq (a b c):type_of% (@AllT.eq_2 a b c):=rfl
attribute [go_sem ↓] vX xY zX yK ze xS vY ud uF uu uc wE wm qJ qz qG pX Ab z8 tB tZ yT zx yA xk wG xD Br BZ BQ AK yc DU Ed Dw Ag yZ xQ yi xF DM Dq DH Dp DX DY Em DG D7 uf uJ zQ zM xM xb Ak Ae y3 zi AM Bu qV qK qR Av yr wu yu yv wT xU wR wW ym uC uN uA uV uM uW ua uU uP uK uD uQ uE ur wO yj yb vV xr xW xy yq wZ uh uv uB uw qW r9 rG rE pT qC qL qS qD BR Az Bg AU Ba BJ BG BI BB AA A0 BC As y8 zN wz xR wg xh xg yx xB wH wC uo ug ub uL uR rY te uI uG zC Aq
end Go.Proofs.YtdecokaadekjnaaGreat
namespace Go.Proofs.YtdecokaadekjnaaGreat
open Go
@[reducible] noncomputable def IV:List (Nat×TypeDesc):=[(3,(TypeDesc.int IntKind.i64)),
 (9,TypeDesc.string),
 (5,(TypeDesc.int IntKind.u8)),
 (4,TypeDesc.bool),
 (0,(TypeDesc.tuple #[])),
 (1,(TypeDesc.func #[] #[] false)),
 (21,(TypeDesc.int IntKind.i32)),
 (22,(TypeDesc.tuple #[4,4])),
 (25,(TypeDesc.slice 9)),
 (26,(TypeDesc.tuple #[25,4])),
 (30,(TypeDesc.func #[9] #[4] false)),
 (31,(TypeDesc.tuple #[9,4])),
 (36,(TypeDesc.slice 3)),
 (43,(TypeDesc.slice 25)),
 (49,(TypeDesc.struct #[{name:= "all",type:=25,offset:=0,embedded:=false,tag:= "",pkgPath:= "loop.example/g01175/spec",byteOffset:=0},{name:= "steps",type:=36,offset:=1,embedded:=false,tag:= "",pkgPath:= "loop.example/g01175/spec",byteOffset:=24},{name:= "next",type:=43,offset:=2,embedded:=false,tag:= "",pkgPath:= "loop.example/g01175/spec",byteOffset:=48}])),
 (50,(TypeDesc.tuple #[49,4])),
 (53,(TypeDesc.pointer 59)),
 (54,(TypeDesc.tuple #[53,4])),
 (57,(TypeDesc.map 9 25)),
 (59,(TypeDesc.struct #[{name:= "first",type:=9,offset:=0,embedded:=false,tag:= "",pkgPath:= "loop.example/g01175/impl",byteOffset:=0},{name:= "order",type:=25,offset:=1,embedded:=false,tag:= "",pkgPath:= "loop.example/g01175/impl",byteOffset:=16},{name:= "next",type:=57,offset:=2,embedded:=false,tag:= "",pkgPath:= "loop.example/g01175/impl",byteOffset:=40}])),
 (60,(TypeDesc.slice 4)),
 (62,(TypeDesc.map 9 4)),
 (66,(TypeDesc.tuple #[9,9])),
 (69,(TypeDesc.slice 5)),
 (73,(TypeDesc.int IntKind.u32)),
 (88,(TypeDesc.pointer 136)),
 (89,(TypeDesc.tuple #[88,4])),
 (93,(TypeDesc.func #[30] #[] false)),
 (110,(TypeDesc.pointer 148)),
 (113,(TypeDesc.pointer 115)),
 (115,(TypeDesc.struct #[{name:= "list",type:=25,offset:=0,embedded:=false,tag:= "",pkgPath:= "loop.example/g01175/impl",byteOffset:=0},{name:= "bad",type:=4,offset:=1,embedded:=false,tag:= "",pkgPath:= "loop.example/g01175/impl",byteOffset:=24}])),
 (129,(TypeDesc.tuple #[5,4])),
 (134,(TypeDesc.slice 88)),
 (136,(TypeDesc.struct #[{name:= "kind",type:=5,offset:=0,embedded:=false,tag:= "",pkgPath:= "loop.example/g01175/impl",byteOffset:=0},{name:= "a",type:=5,offset:=1,embedded:=false,tag:= "",pkgPath:= "loop.example/g01175/impl",byteOffset:=1},{name:= "b",type:=5,offset:=2,embedded:=false,tag:= "",pkgPath:= "loop.example/g01175/impl",byteOffset:=2},{name:= "kids",type:=134,offset:=3,embedded:=false,tag:= "",pkgPath:= "loop.example/g01175/impl",byteOffset:=8}])),
 (137,(TypeDesc.func #[88] #[4] false)),
 (142,(TypeDesc.tuple #[110,4])),
 (145,(TypeDesc.struct #[{name:= "next",type:=3,offset:=0,embedded:=false,tag:= "",pkgPath:= "loop.example/g01175/impl",byteOffset:=0}])),
 (146,(TypeDesc.pointer 155)),
 (148,(TypeDesc.struct #[{name:= "maker",type:=145,offset:=0,embedded:=true,tag:= "",pkgPath:= "loop.example/g01175/impl",byteOffset:=0},{name:= "text",type:=9,offset:=1,embedded:=false,tag:= "",pkgPath:= "loop.example/g01175/impl",byteOffset:=8},{name:= "l",type:=146,offset:=2,embedded:=false,tag:= "",pkgPath:= "loop.example/g01175/impl",byteOffset:=24}])),
 (150,(TypeDesc.array 26 3)),
 (153,(TypeDesc.slice 156)),
 (155,(TypeDesc.struct #[{name:= "own",type:=36,offset:=0,embedded:=false,tag:= "",pkgPath:= "loop.example/g01175/impl",byteOffset:=0},{name:= "threads",type:=153,offset:=1,embedded:=false,tag:= "",pkgPath:= "loop.example/g01175/impl",byteOffset:=24}])),
 (156,(TypeDesc.pointer 201)),
 (157,(TypeDesc.slice 160)),
 (160,(TypeDesc.struct #[{name:= "kind",type:=5,offset:=0,embedded:=false,tag:= "",pkgPath:= "loop.example/g01175/impl",byteOffset:=0},{name:= "a",type:=3,offset:=1,embedded:=false,tag:= "",pkgPath:= "loop.example/g01175/impl",byteOffset:=8},{name:= "b",type:=3,offset:=2,embedded:=false,tag:= "",pkgPath:= "loop.example/g01175/impl",byteOffset:=16},{name:= "rest",type:=146,offset:=3,embedded:=false,tag:= "",pkgPath:= "loop.example/g01175/impl",byteOffset:=24},{name:= "again",type:=4,offset:=4,embedded:=false,tag:= "",pkgPath:= "loop.example/g01175/impl",byteOffset:=32}])),
 (161,(TypeDesc.func #[3] #[4] false)),
 (163,(TypeDesc.slice 166)),
 (166,(TypeDesc.struct #[{name:= "kind",type:=5,offset:=0,embedded:=false,tag:= "",pkgPath:= "loop.example/g01175/spec",byteOffset:=0},{name:= "over",type:=5,offset:=1,embedded:=false,tag:= "",pkgPath:= "loop.example/g01175/spec",byteOffset:=1},{name:= "name",type:=5,offset:=2,embedded:=false,tag:= "",pkgPath:= "loop.example/g01175/spec",byteOffset:=2},{name:= "rest",type:=9,offset:=3,embedded:=false,tag:= "",pkgPath:= "loop.example/g01175/spec",byteOffset:=8},{name:= "stays",type:=4,offset:=4,embedded:=false,tag:= "",pkgPath:= "loop.example/g01175/spec",byteOffset:=24}])),
 (179,(TypeDesc.pointer 181)),
 (181,(TypeDesc.struct #[{name:= "s",type:=9,offset:=0,embedded:=false,tag:= "",pkgPath:= "loop.example/g01175/impl",byteOffset:=0},{name:= "at",type:=3,offset:=1,embedded:=false,tag:= "",pkgPath:= "loop.example/g01175/impl",byteOffset:=16},{name:= "bad",type:=4,offset:=2,embedded:=false,tag:= "",pkgPath:= "loop.example/g01175/impl",byteOffset:=24}])),
 (185,(TypeDesc.func #[88] #[] false)),
 (198,(TypeDesc.pointer 145)),
 (199,(TypeDesc.slice 146)),
 (201,(TypeDesc.struct #[{name:= "kind",type:=5,offset:=0,embedded:=false,tag:= "",pkgPath:= "loop.example/g01175/impl",byteOffset:=0},{name:= "a",type:=3,offset:=1,embedded:=false,tag:= "",pkgPath:= "loop.example/g01175/impl",byteOffset:=8},{name:= "b",type:=3,offset:=2,embedded:=false,tag:= "",pkgPath:= "loop.example/g01175/impl",byteOffset:=16},{name:= "rest",type:=146,offset:=3,embedded:=false,tag:= "",pkgPath:= "loop.example/g01175/impl",byteOffset:=24},{name:= "parts",type:=199,offset:=4,embedded:=false,tag:= "",pkgPath:= "loop.example/g01175/impl",byteOffset:=32}])),
 (206,(TypeDesc.func #[156] #[4] false)),
 (226,(TypeDesc.map 3 3)),
 (230,(TypeDesc.func #[146] #[4] false)),
 (231,(TypeDesc.pointer 233)),
 (233,(TypeDesc.struct #[{name:= "broken",type:=4,offset:=0,embedded:=false,tag:= "",pkgPath:= "loop.example/g01175/spec",byteOffset:=0},{name:= "once",type:=4,offset:=1,embedded:=false,tag:= "",pkgPath:= "loop.example/g01175/spec",byteOffset:=1}])),
 (245,(TypeDesc.tuple #[3,3])),
 (247,(TypeDesc.pointer 250)),
 (248,(TypeDesc.map 3 5)),
 (250,(TypeDesc.struct #[{name:= "env",type:=248,offset:=0,embedded:=false,tag:= "",pkgPath:= "loop.example/g01175/impl",byteOffset:=0},{name:= "taken",type:=73,offset:=1,embedded:=false,tag:= "",pkgPath:= "loop.example/g01175/impl",byteOffset:=8},{name:= "bad",type:=4,offset:=2,embedded:=false,tag:= "",pkgPath:= "loop.example/g01175/impl",byteOffset:=12},{name:= "owns",type:=3,offset:=3,embedded:=false,tag:= "",pkgPath:= "loop.example/g01175/impl",byteOffset:=16}])),
 (253,(TypeDesc.pointer 255)),
 (255,(TypeDesc.struct #[{name:= "front",type:=9,offset:=0,embedded:=false,tag:= "",pkgPath:= "loop.example/g01175/spec",byteOffset:=0},{name:= "threads",type:=25,offset:=1,embedded:=false,tag:= "",pkgPath:= "loop.example/g01175/spec",byteOffset:=16}]))]
theorem IH:∀p∈IV,Tryz.prog.underlying p.1=some p.2:=by
 unfold IV;refine MC.2 ⟨Tryz.underlying3,MC.2 ⟨Tryz.underlying9,MC.2 ⟨Tryz.underlying5,MC.2 ⟨Tryz.underlying4,MC.2 ⟨Tryz.underlying0,MC.2 ⟨Tryz.underlying1,MC.2 ⟨Tryz.underlying21,MC.2 ⟨Tryz.underlying22,MC.2 ⟨Tryz.underlying25,MC.2 ⟨Tryz.underlying26,MC.2 ⟨Tryz.underlying30,MC.2 ⟨Tryz.underlying31,MC.2 ⟨Tryz.underlying36,MC.2 ⟨Tryz.underlying43,MC.2 ⟨Tryz.underlying49,MC.2 ⟨Tryz.underlying50,MC.2 ⟨Tryz.underlying53,MC.2 ⟨Tryz.underlying54,MC.2 ⟨Tryz.underlying57,MC.2 ⟨Tryz.underlying59,MC.2 ⟨Tryz.underlying60,MC.2 ⟨Tryz.underlying62,MC.2 ⟨Tryz.underlying66,MC.2 ⟨Tryz.underlying69,MC.2 ⟨Tryz.underlying73,MC.2 ⟨Tryz.underlying88,MC.2 ⟨Tryz.underlying89,MC.2 ⟨Tryz.underlying93,MC.2 ⟨Tryz.underlying110,MC.2 ⟨Tryz.underlying113,MC.2 ⟨Tryz.underlying115,MC.2 ⟨Tryz.underlying129,MC.2 ⟨Tryz.underlying134,MC.2 ⟨Tryz.underlying136,MC.2 ⟨Tryz.underlying137,MC.2 ⟨Tryz.underlying142,MC.2 ⟨Tryz.underlying145,MC.2 ⟨Tryz.underlying146,MC.2 ⟨Tryz.underlying148,MC.2 ⟨Tryz.underlying150,MC.2 ⟨Tryz.underlying153,MC.2 ⟨Tryz.underlying155,MC.2 ⟨Tryz.underlying156,MC.2 ⟨Tryz.underlying157,MC.2 ⟨Tryz.underlying160,MC.2 ⟨Tryz.underlying161,MC.2 ⟨Tryz.underlying163,MC.2 ⟨Tryz.underlying166,MC.2 ⟨Tryz.underlying179,MC.2 ⟨Tryz.underlying181,MC.2 ⟨Tryz.underlying185,MC.2 ⟨Tryz.underlying198,MC.2 ⟨Tryz.underlying199,MC.2 ⟨Tryz.underlying201,MC.2 ⟨Tryz.underlying206,MC.2 ⟨Tryz.underlying226,MC.2 ⟨Tryz.underlying230,MC.2 ⟨Tryz.underlying231,MC.2 ⟨Tryz.underlying233,MC.2 ⟨Tryz.underlying245,MC.2 ⟨Tryz.underlying247,MC.2 ⟨Tryz.underlying248,MC.2 ⟨Tryz.underlying250,MC.2 ⟨Tryz.underlying253,MC.2 ⟨Tryz.underlying255,List.forall_mem_nil _⟩⟩⟩⟩⟩⟩⟩⟩⟩⟩⟩⟩⟩⟩⟩⟩⟩⟩⟩⟩⟩⟩⟩⟩⟩⟩⟩⟩⟩⟩⟩⟩⟩⟩⟩⟩⟩⟩⟩⟩⟩⟩⟩⟩⟩⟩⟩⟩⟩⟩⟩⟩⟩⟩⟩⟩⟩⟩⟩⟩⟩⟩⟩⟩⟩
theorem F0 (t:Nat)(d:TypeDesc)(h:mH IV t=some d):Tryz.prog.underlying t=some d:=IH (t,d) (pF h)
@[reducible] noncomputable def Hu:List (Nat×(Value×Nat×Nat)):=[(3,(.int .i64 0),1,8),
 (9,(.string ⟨#[]⟩),1,16),
 (5,(.int .u8 0),1,1),
 (4,(.bool false),1,1),
 (1,.nilFunc,1,8),
 (21,(.int .i32 0),1,4),
 (25,(.slice none 0 0),1,24),
 (30,.nilFunc,1,8),
 (36,(.slice none 0 0),1,24),
 (43,(.slice none 0 0),1,24),
 (49,(.agg #[(.slice none 0 0),(.slice none 0 0),(.slice none 0 0)]),3,72),
 (53,(.pointer none),1,8),
 (57,(.map none),1,8),
 (59,(.agg #[(.string ⟨#[]⟩),(.slice none 0 0),(.map none)]),3,48),
 (60,(.slice none 0 0),1,24),
 (62,(.map none),1,8),
 (69,(.slice none 0 0),1,24),
 (73,(.int .u32 0),1,4),
 (88,(.pointer none),1,8),
 (93,.nilFunc,1,8),
 (110,(.pointer none),1,8),
 (113,(.pointer none),1,8),
 (115,(.agg #[(.slice none 0 0),(.bool false)]),2,32),
 (134,(.slice none 0 0),1,24),
 (136,(.agg #[(.int .u8 0),(.int .u8 0),(.int .u8 0),(.slice none 0 0)]),4,32),
 (137,.nilFunc,1,8),
 (145,(.agg #[(.int .i64 0)]),1,8),
 (146,(.pointer none),1,8),
 (148,(.agg #[(.int .i64 0),(.string ⟨#[]⟩),(.pointer none)]),3,32),
 (150,(.agg #[(.int .i64 0),(.int .i64 0),(.int .i64 0),(.int .i64 0),(.int .i64 0),(.int .i64 0),(.int .i64 0),(.int .i64 0),(.int .i64 0),(.int .i64 0),(.int .i64 0),(.int .i64 0),(.int .i64 0),(.int .i64 0),(.int .i64 0),(.int .i64 0),(.int .i64 0),(.int .i64 0),(.int .i64 0),(.int .i64 0),(.int .i64 0),(.int .i64 0),(.int .i64 0),(.int .i64 0),(.int .i64 0),(.int .i64 0)]),26,208),
 (153,(.slice none 0 0),1,24),
 (155,(.agg #[(.slice none 0 0),(.slice none 0 0)]),2,48),
 (156,(.pointer none),1,8),
 (157,(.slice none 0 0),1,24),
 (160,(.agg #[(.int .u8 0),(.int .i64 0),(.int .i64 0),(.pointer none),(.bool false)]),5,40),
 (161,.nilFunc,1,8),
 (163,(.slice none 0 0),1,24),
 (166,(.agg #[(.int .u8 0),(.int .u8 0),(.int .u8 0),(.string ⟨#[]⟩),(.bool false)]),5,32),
 (179,(.pointer none),1,8),
 (181,(.agg #[(.string ⟨#[]⟩),(.int .i64 0),(.bool false)]),3,32),
 (185,.nilFunc,1,8),
 (198,(.pointer none),1,8),
 (199,(.slice none 0 0),1,24),
 (201,(.agg #[(.int .u8 0),(.int .i64 0),(.int .i64 0),(.pointer none),(.slice none 0 0)]),5,56),
 (206,.nilFunc,1,8),
 (226,(.map none),1,8),
 (230,.nilFunc,1,8),
 (231,(.pointer none),1,8),
 (233,(.agg #[(.bool false),(.bool false)]),2,2),
 (247,(.pointer none),1,8),
 (248,(.map none),1,8),
 (250,(.agg #[(.map none),(.int .u32 0),(.bool false),(.int .i64 0)]),4,24),
 (253,(.pointer none),1,8),
 (255,(.agg #[(.string ⟨#[]⟩),(.slice none 0 0)]),2,40)]
theorem GH:Hu.map (λp=>(Tryz.prog.info? p.1).map λi=>(i.zero,i.size,i.bytes))=Hu.map (λp=>some (some p.2.1,p.2.2.1,p.2.2.2)):=by kernel_rfl
theorem IE (t:Nat)(z:Value)(s b:Nat)(h:mH Hu t=some (z,s,b)):∃i,Tryz.prog.info? t=some i/\i.zero=some z/\i.size=s/\i.bytes=b:=by
 have H:=pF h;have G:=List.map_inj_left.1 GH _ H;cases hi:Tryz.prog.info? t with
 | none=>rw [hi]at G;cases G
 | some i=>
  rw [hi]at G;simp only [N8,NP,Prod.mk.injEq]at G;exact⟨i,rfl,G.1,G.2.1,G.2.2⟩
@[reducible] def fV:List Nat:=[3,4,5,6,7,8,9,10,11,12,13,14,15,16,17,18,19,20,21,22,23,24,25,26,27,28,29,30,31,32,33,34,35,36,37,38,39,40,41,42,43,44,45,46,47,48,49,50,51,52,53,54,55,56,57,58,59,60,61,62,63,64,65,66,67,68,69,70,71,72,73,74,75,76,77,78,79,80,81,82,83,84,85,86,87,88,89,90,91,92,93,94,95,96,97,98,99,100,101,102,103,104,105,106,107,108,109,110,111,112,113,114,115,116,117,118,119,120,121,122,123,124,125,126,127,128,129,130,131,132,133,134,135,136,137,138,139,140,141,142,143,144,145,146,147,148,149,150,151,152,153,154,155,156,157,158,159,160,161,162,163,164,165,166,167,168,169,170,171,172,173,174,175,176,177,178,179,180,181,182,183,184,185,186,187,188,189,190,191,192,193,194,195,196,197,198,199,200,201,202,203,204,205,206,207,208,209,210,211,212,214,215,216,217,218,219,220,221,222,223,224,225,226,227,228,229,230,231,235,236,237,238,239,240,241,242,243,244,245,246,247,248,249,250,251,252,253,254,255,256,257,258]
theorem EI:fV.all (λf=>match Tryz.prog.funcs[f]? with | some g=> !g.body.isNone&& !(g.name== "runtime.NumGoroutine") | none=>false)=true:=by kernel_rfl
theorem HE (f:Nat)(h:hasR fV f=true):∃g,Tryz.prog.funcs[f]?=some g/\g.body.isNone=false/\(g.name== "runtime.NumGoroutine")=false:=by
 have G:=Ou.1 EI f (GZ h);cases H:Tryz.prog.funcs[f]? with
 | none=>rw [H]at G;cases G
 | some g=>rw [H]at G;simp only [Mp,Om]at G;exact⟨g,rfl,G.1,G.2⟩
theorem Eh:Tryz.prog.follows .mixedOrders=true:=by kernel_rfl
@[reducible] noncomputable def ay:dJ where
 P:=Tryz.prog
 und:=mH IV
 und_ok:=F0
 inf:=mH Hu
 inf_ok:=IE
 fn:=hasR fV
 fn_ok:=HE
 mixed:=Eh
theorem LN:ay.P=Tryz.prog:=rfl
@[reducible] def ab (f:Func):Code:=match f.body with
 | some c=>c
 | none=> .skip
attribute [go_sem] LN ab
abbrev It (w:World)(b f n:Nat)(cs:List Value)(K:PV):Prop:=(List.length cs=n/\List.all cs aB=true/\∀j,j< n->(∃u,World.cell? w ⟨b,f+j,none⟩=some u)/\World.frozen? w ⟨b,f+j,none⟩=false)/\∀w2:World,w2=World.setCells w b f cs->K w2
abbrev dQ (w:World)(o:Obj)(K:Nat->PV):Prop:=∀(b:Nat) (w2:World),b=Array.size (World.heap w)->w2=World.alloc w o->K b w2
abbrev cw (v:Value)(K:Nat->Nat->Prop):Prop:=∃(b o:Nat),v=Value.pointer (some ⟨b,o,none⟩)/\K b o
abbrev jc (v:Value)(i:Int)(K:Nat->Nat->Prop):Prop:=∃(b o n c:Nat),v=Value.slice (some ⟨b,o,none⟩) n c/\0<=i/\i< n/\K b o
abbrev jS (v:Value)(K:Nat->Prop):Prop:=∃(a:Option Addr) (n c:Nat),v=Value.slice a n c/\K n
abbrev jW (w:World)(b j:Nat)(v:Value)(K:PV):Prop:=((∃u:Value,World.cell? w ⟨b,j,none⟩=some u)/\World.frozen? w ⟨b,j,none⟩=false)/\∀w2:World,w2=World.setCell w ⟨b,j,none⟩ v->K w2
abbrev bS (c:Bool)(A B:Prop):Prop:=(c=true->A)/\(c=false->B)
abbrev Hg (c:Bool)(A B:Prop):Prop:=(c=false->A)/\(c=true->B)
abbrev j4 (w:World)(K:(PV)->PV):Prop:=∃S:PV,∀w1:World,w1=World.drew w->S w1/\K S w1
abbrev nJ (e z y:Nat)(w:World)(v x:Value)(K:Value->PV):Prop:=∃(base n m:Nat) (xs news:List Value),World.ownsRow w base e z v n xs/\base<=Array.size (World.heap w)/\dI w x m z news/\(n+m<=maxLen/\(n+m)* y<=140737488355328)/\∀(v':Value) (w':World),World.ownsRow w' base e z v' (n+m) (xs++news)->World.grownBy w w' (Value.ownBlock v)->(∀b:Nat,Value.ownBlock v'=some b->Value.ownBlock v=some b\/Array.size (World.heap w)<=b)->K v' w'
abbrev JL (w:World)(b o:Nat)(K:Int->Prop):Prop:=∃v:Int,World.cell? w ⟨b,o,none⟩=some (.int .i64 v)/\K v
abbrev wk (S:PV)(b o:Nat)(K:Int->Prop):Prop:=∃v:Int,(∀w',S w'->World.cell? w' ⟨b,o,none⟩=some (.int .i64 v))/\K v
abbrev zR (w:World)(b o:Nat)(K:UInt8->Prop):Prop:=∃v:UInt8,World.cell? w ⟨b,o,none⟩=some (.int .u8 (UInt8.toNat v))/\K v
abbrev KZ (S:PV)(b o:Nat)(K:UInt8->Prop):Prop:=∃v:UInt8,(∀w',S w'->World.cell? w' ⟨b,o,none⟩=some (.int .u8 (UInt8.toNat v)))/\K v
abbrev HJ (w:World)(b o:Nat)(K:aF->Prop):Prop:=∃v:aF,World.cell? w ⟨b,o,none⟩=some (.string (ax v))/\K v
abbrev GP (S:PV)(b o:Nat)(K:aF->Prop):Prop:=∃v:aF,(∀w',S w'->World.cell? w' ⟨b,o,none⟩=some (.string (ax v)))/\K v
abbrev LZ (w:World)(b o:Nat)(K:Bool->Prop):Prop:=∃v:Bool,World.cell? w ⟨b,o,none⟩=some (.bool v)/\K v
abbrev cY (w:World)(b o:Nat)(K:Value->Prop):Prop:=∃v:Value,World.cell? w ⟨b,o,none⟩=some (v)/\K v
abbrev eo (S:PV)(b o:Nat)(K:Value->Prop):Prop:=∃v:Value,(∀w',S w'->World.cell? w' ⟨b,o,none⟩=some (v))/\K v
abbrev fC (f:Nat)(a:Array Value)(w:World)(K:PV):Prop:=PW f a w (aw [] K)
abbrev xL (f:Nat)(a:Array Value)(w:World)(K:Value->PV):Prop:=PW f a w (aw [.v] K)
abbrev Hb (f:Nat)(a:Array Value)(w:World)(K:Bool->PV):Prop:=PW f a w (aw [.b] K)
abbrev Mi (f:Nat)(a:Array Value)(w:World)(K:aF->PV):Prop:=PW f a w (aw [.s] K)
abbrev FK (f:Nat)(a:Array Value)(w:World)(K:Int->PV):Prop:=PW f a w (aw [.i] K)
abbrev y7 (f:Nat)(a:Array Value)(w:World)(K:Value->Bool->PV):Prop:=PW f a w (aw [.v,.b] K)
abbrev Bf (f:Nat)(a:Array Value)(w:World)(K:aF->Bool->PV):Prop:=PW f a w (aw [.s,.b] K)
abbrev LH (f:Nat)(a:Array Value)(w:World)(K:aF->aF->PV):Prop:=PW f a w (aw [.s,.s] K)
abbrev tY (a0:Int)(w:World)(K:(Int->PV)->(Int->World->Nat)->Int->PV):Prop:=∃(I:Int->PV) (m:Int->World->Nat),I a0 w/\∀(G:Int) (w2:World),I G w2->K I m G w2
abbrev LP (a0:Int)(J:Int)(w:World)(K:(Int->Int->PV)->(Int->Int->World->Nat)->Int->Int->PV):Prop:=∃(I:Int->Int->PV) (m:Int->Int->World->Nat),I a0 J w/\∀(G:Int) (H:Int) (w2:World),I G H w2->K I m G H w2
abbrev Jr (a0:Value)(J:Int)(w:World)(K:(Value->Int->PV)->(Value->Int->World->Nat)->Value->Int->PV):Prop:=∃(I:Value->Int->PV) (m:Value->Int->World->Nat),I a0 J w/\∀(G:Value) (H:Int) (w2:World),I G H w2->K I m G H w2
abbrev Cq (a0:Bool)(V:Value)(a2:Int)(w:World)(K:(Bool->Value->Int->PV)->(Bool->Value->Int->World->Nat)->Bool->Value->Int->PV):Prop:=∃(I:Bool->Value->Int->PV) (m:Bool->Value->Int->World->Nat),I a0 V a2 w/\∀(G:Bool) (H:Value) (J:Int) (w2:World),I G H J w2->K I m G H J w2
@[simp] theorem L5 (A B:Prop):bS true A B↔A:=⟨λh=>h.1 rfl,λh=>⟨λ _=>h,(λe=>by cases e)⟩⟩
@[simp] theorem LU (A B:Prop):bS false A B↔B:=⟨λh=>h.2 rfl,λh=>⟨(λe=>by cases e),λ _=>h⟩⟩
theorem tN {n i:Nat}(h:i< n):((n:Int) - ((i:Int)+1)).toNat< ((n:Int) - i).toNat:=by omega
theorem oL {a b:Nat}{d:Decidable ((a:Int)< b)}(h:@decide _ d=true):a< b:=Int.ofNat_lt.1 (MN h)
theorem oE {a b:Nat}{d:Decidable ((a:Int)< b)}(h:@decide _ d=false)(k:a<=b):a=b:=by
 have :=MO h;omega
theorem gE {α:Type}{l:List α}{i:Nat}(h:i< l.length):l[(i:Int).toNat]?=some l[i]:=by rw [Mv];exact Mo h
@[simp] theorem LW (A B:Prop):Hg true A B↔B:=⟨λh=>h.2 rfl,λh=>⟨(λe=>by cases e),λ _=>h⟩⟩
@[simp] theorem LY (A B:Prop):Hg false A B↔A:=⟨λh=>h.1 rfl,λh=>⟨λ _=>h,(λe=>by cases e)⟩⟩
@[reducible] def a6 (l c:List (Nat×List (Nat×Kd))) (t:List (Nat×Bool×Pl)):Dl:=⟨λn=>mH l n,λn=>mH c n,λn=>mH t n⟩
theorem IJ {f:Nat}{fn:Func}{w:World}{V:Prop}(A:Dl)(L:List RI)(args:List SV){R:Cur (nt L)}(H:ay.P.funcs[f]?=some fn)(e:(fn.body,fn.results,okCode ay A fn.ntmps (ab fn)&&decide (args.length<=fn.ntmps),vc ay A (ab fn) (ai 0 args) w (fin ay L R))=(some (ab fn),(L.map RI.rv).toArray,true,V))(h:V):Calls ay.P f (SV.aO args).toArray w (aw (nt L) R):=by
 injection e with hb e
 injection e with hr e
 injection e with G e
 exact qs (T:=ay) A L (c:=ab fn) (args:=args) H hb rfl hr G (Eq.mpr e h)
theorem bc {f:Nat}{fn:Func}{w:World}{A:Dl}{L:List RI}{args:List SV}{R:Cur (nt L)}(H:ay.P.funcs[f]?=some fn)(e:(fn.body,fn.results,okCode ay A fn.ntmps (ab fn)&&decide (args.length<=fn.ntmps))=(some (ab fn),(L.map RI.rv).toArray,true))(h:vc ay A (ab fn) (ai 0 args) w (fin ay L R)):Calls ay.P f (SV.aO args).toArray w (aw (nt L) R):=by
 injection e with hb e
 injection e with hr G
 exact qs (T:=ay) A L (c:=ab fn) (args:=args) H hb rfl hr G h
attribute [go_sem] Tryz.f161
theorem tE (c1:UInt8)(w:World)(R:Bool->PV)(h:vc ay (a6 [] [] []) (ab Tryz.f161) (ai 0 [.c c1]) w (fin ay [.tmp 2 .b] R)):
  PW 161 #[(.int .u8 c1.toNat)] w (aw [.b] R):=
 bc Tryz.func161 (by kernel_rfl) h
attribute [go_sem] Tryz.f110
theorem mI (G:aF)(a2:Int)(w:World)(R:Int->PV)(h:vc ay (a6 [] [] []) (ab Tryz.f110) (ai 0 [.s G,.i a2]) w (fin ay [.tmp 4 .i] R)):
  PW 110 #[(.string (ax G)),(.int .i64 a2)] w (aw [.i] R):=
 bc Tryz.func110 (by kernel_rfl) h
attribute [go_sem] Tryz.f120
theorem sX (G:aF)(w:World)(R:UInt8->PV)(h:vc ay (a6 [] [] []) (ab Tryz.f120) (ai 0 [.s G]) w (fin ay [.tmp 2 .c] R)):
  PW 120 #[(.string (ax G))] w (aw [.c] R):=
 bc Tryz.func120 (by kernel_rfl) h
attribute [go_sem] Tryz.f165
theorem tT (G:aF)(w:World)(R:Int->PV)(h:vc ay (a6 [] [] []) (ab Tryz.f165) (ai 0 [.s G]) w (fin ay [.tmp 2 .i] R)):
  PW 165 #[(.string (ax G))] w (aw [.i] R):=
 bc Tryz.func165 (by kernel_rfl) h
attribute [go_sem] Tryz.f117
theorem qv (G:aF)(w:World)(R:Value->PV)(h:vc ay (a6 [] [] [(7,false,.lt 0 (.lt 1 (.lt 2 (.lt 3 (.lt 4 (.lt 5 (.lt 6 (.lt 7 (.lt 8 (.lt 9 (.one .h 10 (.lt 11 .done))))))))))))]) (ab Tryz.f117) (ai 0 [.s G]) w (fin ay [.tmp 2 .v] R)):
  PW 117 #[(.string (ax G))] w (aw [.v] R):=
 bc Tryz.func117 (by kernel_rfl) h
attribute [go_sem] Tryz.f111
theorem rX (G:aF)(w:World)(R:Int->PV)(h:vc ay (a6 [(3,[(3,.i),(9,.i)])] [] []) (ab Tryz.f111) (ai 0 [.s G]) w (fin ay [.tmp 2 .i] R)):
  PW 111 #[(.string (ax G))] w (aw [.i] R):=
 bc Tryz.func111 (by kernel_rfl) h
attribute [go_sem] Tryz.f109
theorem qM (G:aF)(w:World)(R:Bool->PV)(h:vc ay (a6 [(2,[(3,.i)])] [] []) (ab Tryz.f109) (ai 0 [.s G]) w (fin ay [.tmp 2 .b] R)):
  PW 109 #[(.string (ax G))] w (aw [.b] R):=
 bc Tryz.func109 (by kernel_rfl) h
attribute [go_sem] Tryz.f65
theorem sQ (G:aF)(w:World)(R:Bool->PV)(h:vc ay (a6 [] [] []) (ab Tryz.f65) (ai 0 [.s G]) w (fin ay [.tmp 2 .b] R)):
  PW 65 #[(.string (ax G))] w (aw [.b] R):=
 bc Tryz.func65 (by kernel_rfl) h
attribute [go_sem] Tryz.f56
theorem wV (s1:aF)(c2:UInt8)(w:World)(R:Bool->PV)(h:vc ay (a6 [(2,[(5,.i)])] [] []) (ab Tryz.f56) (ai 0 [.s s1,.c c2]) w (fin ay [.tmp 4 .b] R)):
  PW 56 #[(.string (ax s1)),(.int .u8 c2.toNat)] w (aw [.b] R):=
 bc Tryz.func56 (by kernel_rfl) h
attribute [go_sem] Tryz.f121
theorem uH (s1:aF)(c2:UInt8)(w:World)(R:aF->PV)(h:vc ay (a6 [(2,[(5,.i)])] [] [(6,false,.lt 0 (.lt 1 (.lt 2 (.lt 3 (.lt 7 (.lt 8 (.lt 9 (.one .h 4 (.one .h 5 (.lt 6 (.lt 10 (.lt 11 .done))))))))))))]) (ab Tryz.f121) (ai 0 [.s s1,.c c2]) w (fin ay [.tmp 4 .s] R)):
  PW 121 #[(.string (ax s1)),(.int .u8 c2.toNat)] w (aw [.s] R):=
 bc Tryz.func121 (by kernel_rfl) h
attribute [go_sem] Tryz.f119
theorem sN (s1:aF)(c2:UInt8)(w:World)(R:aF->PV)(h:vc ay (a6 [(3,[(5,.s),(6,.i)])] [] []) (ab Tryz.f119) (ai 0 [.s s1,.c c2]) w (fin ay [.tmp 4 .s] R)):
  PW 119 #[(.string (ax s1)),(.int .u8 c2.toNat)] w (aw [.s] R):=
 bc Tryz.func119 (by kernel_rfl) h
attribute [go_sem] Tryz.f104
theorem sj (s1:aF)(t2:aF)(w:World)(R:aF->PV)(h:vc ay (a6 [(2,[(0,.s),(5,.i)])] [] []) (ab Tryz.f104) (ai 0 [.s s1,.s t2]) w (fin ay [.tmp 4 .s] R)):
  PW 104 #[(.string (ax s1)),(.string (ax t2))] w (aw [.s] R):=
 bc Tryz.func104 (by kernel_rfl) h
attribute [go_sem] Tryz.f118
theorem qy (G:aF)(w:World)(R:UInt8->Bool->PV)(h:vc ay (a6 [] [] []) (ab Tryz.f118) (ai 0 [.s G]) w (fin ay [.tmp 2 .c,.tmp 3 .b] R)):
  PW 118 #[(.string (ax G))] w (aw [.c,.b] R):=
 bc Tryz.func118 (by kernel_rfl) h
attribute [go_sem] Tryz.f76
theorem sg (G:aF)(w:World)(R:aF->PV)(h:vc ay (a6 [(3,[(3,.s),(11,.i)])] [(10,[(3,.s)])] [(12,false,.lt 0 (.lt 1 (.lt 2 (.lt 4 (.lt 5 (.one .h 3 (.one .h 6 (.lt 7 .done)))))))),(16,false,.lt 0 (.lt 1 (.lt 2 (.lt 4 (.lt 5 (.one .h 3 (.one .h 6 (.lt 7 .done))))))))]) (ab Tryz.f76) (ai 0 [.s G]) w (fin ay [.tmp 2 .s] R)):
  PW 76 #[(.string (ax G))] w (aw [.s] R):=
 bc Tryz.func76 (by kernel_rfl) h
attribute [go_sem] Tryz.f75
theorem qP (t1:aF)(w:World)(R:UInt8->PV)(h:vc ay (a6 [(2,[(3,.c)]),(7,[(4,.c)])] [] []) (ab Tryz.f75) (ai 0 [.s t1]) w (fin ay [.tmp 2 .c] R)):
  PW 75 #[(.string (ax t1))] w (aw [.c] R):=
 bc Tryz.func75 (by kernel_rfl) h
attribute [go_sem] Tryz.f192
theorem tK (c1:UInt8)(G:UInt8)(H:UInt8)(w:World)(R:UInt8->PV)(h:vc ay (a6 [] [] []) (ab Tryz.f192) (ai 0 [.c c1,.c G,.c H]) w (fin ay [.tmp 6 .c] R)):
  PW 192 #[(.int .u8 c1.toNat),(.int .u8 G.toNat),(.int .u8 H.toNat)] w (aw [.c] R):=
 bc Tryz.func192 (by kernel_rfl) h
attribute [go_sem] Tryz.f153
theorem pD (G:aF)(H:UInt8)(J:UInt8)(w:World)(R:aF->PV)(h:vc ay (a6 [] [(10,[(11,.c)]),(12,[(8,.s),(9,.c)]),(14,[(8,.s)]),(18,[]),(30,[])] [(9,false,.lt 0 (.lt 2 (.lt 3 (.br .h 1 (.one .h 4 (.one .h 5 (.one .h 6 (.one .h 7 (.lt 8 .done))))) (.one .h 4 (.br .h 1 (.one .h 5 (.one .h 6 (.one .h 7 (.lt 8 .done)))) (.one .h 5 (.one .h 1 (.one .h 6 (.one .h 7 (.lt 8 .done))))))))))),(29,false,.lt 0 (.lt 1 (.lt 2 (.lt 3 (.lt 4 (.lt 5 (.lt 7 (.lt 8 (.lt 9 (.lt 10 (.lt 11 (.one .h 6 (.one .h 12 (.one .h 13 (.one .h 14 (.lt 15 .done)))))))))))))))),(30,false,.lt 0 (.lt 2 (.lt 3 (.lt 4 (.lt 5 (.lt 6 (.lt 7 (.br .h 1 (.one .h 8 (.lt 9 (.lt 10 .done))) (.one .h 8 (.one .h 1 (.lt 9 (.lt 10 .done))))))))))))]) (ab Tryz.f153) (ai 0 [.s G,.c H,.c J]) w (fin ay [.tmp 6 .s] R)):
  PW 153 #[(.string (ax G)),(.int .u8 H.toNat),(.int .u8 J.toNat)] w (aw [.s] R):=
 bc Tryz.func153 (by kernel_rfl) h
attribute [go_sem] Tryz.f247
theorem qF (G:aF)(w:World)(R:aF->PV)(h:vc ay (a6 [] [] [(3,false,.lt 0 (.lt 1 (.lt 2 (.lt 3 (.lt 4 (.lt 5 .done)))))),(7,false,.lt 0 (.lt 1 (.lt 2 (.lt 3 (.lt 4 (.lt 5 .done))))))]) (ab Tryz.f247) (ai 0 [.s G]) w (fin ay [.tmp 2 .s] R)):
  PW 247 #[(.string (ax G))] w (aw [.s] R):=
 bc Tryz.func247 (by kernel_rfl) h
attribute [go_sem] Tryz.f193
theorem rS (G:aF)(H:Value)(w:World)(R:aF->PV)(h:vc ay (a6 [] [] [(5,false,.lt 0 (.lt 1 (.lt 2 (.lt 3 (.lt 4 (.lt 5 (.lt 6 (.lt 7 (.lt 8 (.lt 9 (.lt 10 .done))))))))))),(7,false,.lt 0 (.lt 1 (.lt 2 (.lt 3 (.lt 4 (.lt 5 (.lt 6 (.lt 7 (.lt 8 (.lt 9 (.lt 10 .done))))))))))),(8,false,.lt 0 (.lt 1 (.lt 4 (.lt 5 (.lt 6 (.one .h 2 (.lt 3 (.lt 7 (.lt 8 .done)))))))))]) (ab Tryz.f193) (ai 0 [.s G,.v H]) w (fin ay [.tmp 4 .s] R)):
  PW 193 #[(.string (ax G)),H] w (aw [.s] R):=
 bc Tryz.func193 (by kernel_rfl) h
attribute [go_sem] Tryz.f112
theorem oG (G:aF)(w:World)(R:Bool->PV)(h:vc ay (a6 [(2,[(8,.i)])] [] []) (ab Tryz.f112) (ai 0 [.s G]) w (fin ay [.tmp 2 .b] R)):
  PW 112 #[(.string (ax G))] w (aw [.b] R):=
 bc Tryz.func112 (by kernel_rfl) h
attribute [go_sem] Tryz.f113
theorem pv (G:aF)(w:World)(R:Bool->PV)(h:vc ay (a6 [(2,[(8,.i)])] [] []) (ab Tryz.f113) (ai 0 [.s G]) w (fin ay [.tmp 2 .b] R)):
  PW 113 #[(.string (ax G))] w (aw [.b] R):=
 bc Tryz.func113 (by kernel_rfl) h
attribute [go_sem] Tryz.f66
theorem p6 (G:aF)(w:World)(R:Bool->PV)(h:vc ay (a6 [] [] []) (ab Tryz.f66) (ai 0 [.s G]) w (fin ay [.tmp 2 .b] R)):
  PW 66 #[(.string (ax G))] w (aw [.b] R):=
 bc Tryz.func66 (by kernel_rfl) h
attribute [go_sem] Tryz.f190
theorem wU (G:aF)(w:World)(R:aF->Bool->PV)(h:vc ay (a6 [] [] []) (ab Tryz.f190) (ai 0 [.s G]) w (fin ay [.tmp 2 .s,.tmp 3 .b] R)):
  PW 190 #[(.string (ax G))] w (aw [.s,.b] R):=
 bc Tryz.func190 (by kernel_rfl) h
end Go.Proofs.YtdecokaadekjnaaGreat
namespace Go.Proofs.YtdecokaadekjnaaGreat
inductive T (N:Type) where
 | nil
 | snd (a b:N) (p:T N)
 | rcv (a x:N) (p:T N)
 | tau (p:T N)
 | sum (p q:T N)
 | par (p q:T N)
 | res (x:N) (p:T N)
 | mat (a b:N) (p:T N)
 | rep (p:T N)
def aI {A V:Type}[DecidableEq A](ρ:A->V)(x:A)(v:V):A->V:=λy=>if y=x then v else ρ y
section
variable {A B C:Type} [DecidableEq A] [DecidableEq B] [DecidableEq C]
theorem cR (ρ:A->Nat)(x:A)(v:Nat):aI ρ x v x=v:=by simp [aI]
theorem bH (ρ:A->Nat){x y:A}(v:Nat)(h:y≠x):aI ρ x v y=ρ y:=by simp [aI,h]
namespace T
def Fr (x:A):T A->Prop
 | nil=>False
 | snd a b p=>x=a\/x=b\/p.Fr x
 | rcv a y p=>x=a\/(x≠y/\p.Fr x)
 | tau p=>p.Fr x
 | sum p q=>p.Fr x\/q.Fr x
 | par p q=>p.Fr x\/q.Fr x
 | res y p=>x≠y/\p.Fr x
 | mat a b p=>x=a\/x=b\/p.Fr x
 | rep p=>p.Fr x
def dead:T A->Bool
 | nil=>true | snd .. =>false | rcv .. =>false | tau _=>false
 | sum p q=>p.dead&&q.dead
 | par p q=>p.dead&&q.dead
 | res _ p=>p.dead | mat _ _ p=>p.dead | rep p=>p.dead
def Us (x:A):T A->Prop
 | nil=>False
 | snd a b p=>x=a\/x=b\/p.Us x
 | rcv a y p=>x=a\/(x≠y/\p.Us x)
 | tau p=>p.Us x
 | sum p q=>p.Us x\/q.Us x
 | par p q=>p.Us x\/q.Us x
 | res y p=>x≠y/\p.Us x
 | mat a b p=>(a=b/\p.Us x)\/(a≠b/\p.dead=false/\(x=a\/x=b\/p.Us x))
 | rep p=>p.Us x
def size:T A->Nat
 | nil=>1 | snd _ _ p=>p.size+1 | rcv _ _ p=>p.size+1 | tau p=>p.size+1 | sum p q=>p.size+q.size+1
 | par p q=>p.size+q.size+1 | res _ p=>p.size+1 | mat _ _ p=>p.size+1 | rep p=>p.size+1
theorem bs {A:Type}{x:A}:∀{p:T A},p.Us x->p.Fr x
 | snd a b p,h=>by simp only [Us,Fr]at*;exact h.imp id λh=>h.imp id bs
 | rcv a y p,h=>by simp only [Us,Fr]at*;exact h.imp id λh=>h.imp id bs
 | tau p,h=>bs (p:=p) h
 | sum p q,h=>Or.imp bs bs h
 | par p q,h=>Or.imp bs bs h
 | res y p,h=>And.imp id bs h
 | mat a b p,h=>by
  simp only [Us,Fr]at*;rcases h with⟨_,h⟩ | ⟨_,_,h⟩
  ·exact .inr (.inr (bs h))
  ·exact h.imp id λh=>h.imp id bs
 | rep p,h=>bs (p:=p) h
theorem bz {A:Type}{x:A}:∀{p:T A},p.dead=true->¬p.Us x
 | nil,_,h=>h
 | snd ..,hd,_=>by cases hd
 | rcv ..,hd,_=>by cases hd
 | tau ..,hd,_=>by cases hd
 | sum p q,hd,h=>by
  simp only [dead,Mp]at hd;exact h.elim (bz hd.1) (bz hd.2)
 | par p q,hd,h=>by
  simp only [dead,Mp]at hd;exact h.elim (bz hd.1) (bz hd.2)
 | res y p,hd,h=>bz (p:=p) hd h.2
 | mat a b p,hd,h=>by
  simp only [dead]at hd;rcases h with⟨_,h⟩ | ⟨_,h,_⟩
  ·exact bz hd h
  ·rw [hd]at h;cases h
 | rep p,hd,h=>bz (p:=p) hd h
end T
def AE:(A->Nat)->T A->(B->Nat)->T B->Prop
 | _,.nil,_,.nil=>True
 | ρ,.snd a b p,σ,.snd c d q=>ρ a=σ c/\ρ b=σ d/\AE ρ p σ q
 | ρ,.rcv a x p,σ,.rcv c y q=>ρ a=σ c/\∀v,AE (aI ρ x v) p (aI σ y v) q
 | ρ,.tau p,σ,.tau q=>AE ρ p σ q
 | ρ,.sum p G,σ,.sum q H=>AE ρ p σ q/\AE ρ G σ H
 | ρ,.par p G,σ,.par q H=>AE ρ p σ q/\AE ρ G σ H
 | ρ,.res x p,σ,.res y q=>∀v,AE (aI ρ x v) p (aI σ y v) q
 | ρ,.mat a b p,σ,.mat c d q=>ρ a=σ c/\ρ b=σ d/\AE ρ p σ q
 | ρ,.rep p,σ,.rep q=>AE ρ p σ q
 | _,_,_,_=>False
theorem lC {p:T A}{ρ ρ':A->Nat}{x:A}(v:Nat)(h:∀z,z≠x->p.Fr z->ρ z=ρ' z)(z:A)(H:p.Fr z):aI ρ x v z=aI ρ' x v z:=by
 unfold aI;split
 ·rfl
 ·rename_i G;exact h z G H
theorem AE.congr:∀{p:T A} {q:T B} {ρ ρ':A->Nat} {σ W:B->Nat},AE ρ p σ q->(∀x,p.Fr x->ρ x=ρ' x)->(∀y,q.Fr y->σ y=W y)->AE ρ' p W q:=by
 intro p
 induction p<;>intro q ρ ρ' σ W h H J<;>cases q<;>simp only [AE]at h|-
 case snd.snd V _ _ _=>
  exact⟨by rw [<-H _ (.inl rfl),<-J _ (.inl rfl)];exact h.1,by rw [<-H _ (.inr (.inl rfl)),<-J _ (.inr (.inl rfl))];exact h.2.1,
   V h.2.2 (λx G=>H x (.inr (.inr G))) (λx G=>J x (.inr (.inr G)))⟩
 case mat.mat V _ _ _=>
  exact⟨by rw [<-H _ (.inl rfl),<-J _ (.inl rfl)];exact h.1,by rw [<-H _ (.inr (.inl rfl)),<-J _ (.inr (.inl rfl))];exact h.2.1,
   V h.2.2 (λx G=>H x (.inr (.inr G))) (λx G=>J x (.inr (.inr G)))⟩
 case rcv.rcv V _ _ _=>
  exact⟨by rw [<-H _ (.inl rfl),<-J _ (.inl rfl)];exact h.1,
   λv=>V (h.2 v) (lC v λz Z hf=>H z (.inr ⟨Z,hf⟩)) (lC v λz Z hf=>J z (.inr ⟨Z,hf⟩))⟩
 case res.res V _ _=>
  exact λv=>V (h v) (lC v λz Z hf=>H z ⟨Z,hf⟩) (lC v λz Z hf=>J z ⟨Z,hf⟩)
 case tau.tau V _=>exact V h H J
 case rep.rep V _=>exact V h H J
 case sum.sum V α _ _=>exact⟨V h.1 (λx G=>H x (.inl G)) (λx G=>J x (.inl G)),α h.2 (λx G=>H x (.inr G)) (λx G=>J x (.inr G))⟩
 case par.par V α _ _=>exact⟨V h.1 (λx G=>H x (.inl G)) (λx G=>J x (.inl G)),α h.2 (λx G=>H x (.inr G)) (λx G=>J x (.inr G))⟩
theorem AE.refl:∀(p:T A) (ρ:A->Nat),AE ρ p ρ p:=by
 intro p
 induction p<;>intro ρ<;>simp_all [AE]
theorem AE.symm:∀{p:T A} {q:T B} {ρ:A->Nat} {σ:B->Nat},AE ρ p σ q->AE σ q ρ p:=by
 intro p
 induction p<;>intro q ρ σ h<;>cases q<;>simp only [AE]at h|-
 case snd.snd G _ _ _=>exact⟨h.1.symm,h.2.1.symm,G h.2.2⟩
 case mat.mat G _ _ _=>exact⟨h.1.symm,h.2.1.symm,G h.2.2⟩
 case rcv.rcv G _ _ _=>exact⟨h.1.symm,λv=>G (h.2 v)⟩
 case res.res G _ _=>exact λv=>G (h v)
 case tau.tau G _=>exact G h
 case rep.rep G _=>exact G h
 case sum.sum G H _ _=>exact⟨G h.1,H h.2⟩
 case par.par G H _ _=>exact⟨G h.1,H h.2⟩
theorem AE.trans:∀{p:T A} {q:T B} {r:T C} {ρ:A->Nat} {σ:B->Nat} {τ:C->Nat},AE ρ p σ q->AE σ q τ r->AE ρ p τ r:=by
 intro p
 induction p<;>intro q r ρ σ τ h k<;>cases q<;>simp only [AE]at h<;>cases r<;>simp only [AE]at k|-
 case snd.snd.snd G _ _ _ _ _ _=>exact⟨h.1.trans k.1,h.2.1.trans k.2.1,G h.2.2 k.2.2⟩
 case mat.mat.mat G _ _ _ _ _ _=>exact⟨h.1.trans k.1,h.2.1.trans k.2.1,G h.2.2 k.2.2⟩
 case rcv.rcv.rcv G _ _ _ _ _ _=>exact⟨h.1.trans k.1,λv=>G (h.2 v) (k.2 v)⟩
 case res.res.res G _ _ _ _=>exact λv=>G (h v) (k v)
 case tau.tau.tau G _ _=>exact G h k
 case rep.rep.rep G _ _=>exact G h k
 case sum.sum.sum G H _ _ _ _=>exact⟨G h.1 k.1,H h.2 k.2⟩
 case par.par.par G H _ _ _ _=>exact⟨G h.1 k.1,H h.2 k.2⟩
theorem yO {A:Type}(p:T A):∀ρ:A->Nat,∃B,∀x,p.Fr x->ρ x< B:=by
 induction p<;>intro ρ
 case nil=>exact⟨0,λx h=>h.elim⟩
 case snd a b p H=>
  obtain⟨n,h⟩:=H ρ;refine⟨n+ρ a+ρ b+1,λx G=>?_⟩;rcases G with rfl | rfl | G
  ·omega
  ·omega
  ·have :=h x G;omega
 case mat a b p H=>
  obtain⟨n,h⟩:=H ρ;refine⟨n+ρ a+ρ b+1,λx G=>?_⟩;rcases G with rfl | rfl | G
  ·omega
  ·omega
  ·have :=h x G;omega
 case rcv a y p H=>
  obtain⟨n,h⟩:=H ρ;refine⟨n+ρ a+1,λx G=>?_⟩;rcases G with rfl | G
  ·omega
  ·have :=h x G.2;omega
 case res y p H=>
  obtain⟨n,h⟩:=H ρ;exact⟨n,λx G=>h x G.2⟩
 case tau p H=>exact H ρ
 case rep p H=>exact H ρ
 case sum p q H J=>
  obtain⟨n,h⟩:=H ρ;obtain⟨m,V⟩:=J ρ;refine⟨n+m,λx G=>?_⟩;rcases G with G | G
  ·have :=h x G;omega
  ·have :=V x G;omega
 case par p q H J=>
  obtain⟨n,h⟩:=H ρ;obtain⟨m,V⟩:=J ρ;refine⟨n+m,λx G=>?_⟩;rcases G with G | G
  ·have :=h x G;omega
  ·have :=V x G;omega
theorem bV {A B:Type}(p:T A)(q:T B)(ρ:A->Nat)(σ:B->Nat):∃v,(∀x,p.Fr x->ρ x≠v)/\∀y,q.Fr y->σ y≠v:=by
 obtain⟨n,h⟩:=yO p ρ;obtain⟨m,H⟩:=yO q σ;exact⟨n+m,λx G=>by have :=h x G;omega,λx G=>by have :=H x G;omega⟩
theorem AE.map:∀{p:T A} {q:T B} {ρ:A->Nat} {σ:B->Nat} (f:Nat->Nat),AE ρ p σ q->AE (λx=>f (ρ x)) p (λx=>f (σ x)) q:=by
 intro p
 induction p<;>intro q ρ σ f h<;>cases q<;>simp only [AE]at h|-
 case snd.snd G _ _ _=>exact⟨Nz f h.1,Nz f h.2.1,G f h.2.2⟩
 case mat.mat G _ _ _=>exact⟨Nz f h.1,Nz f h.2.1,G f h.2.2⟩
 case rcv.rcv p G _ _ q=>
  refine⟨Nz f h.1,λv=>?_⟩;obtain⟨u,V,W⟩:=bV p q ρ σ;refine(G (aI f u v) (h.2 u)).congr (λx H=>?_) λx H=>?_<;>unfold aI<;>split
  ·simp
  ·rw [MJ (V _ H)]
  ·simp
  ·rw [MJ (W _ H)]
 case res.res p G _ q=>
  intro v;obtain⟨u,V,W⟩:=bV p q ρ σ;refine(G (aI f u v) (h u)).congr (λx H=>?_) λx H=>?_<;>unfold aI<;>split
  ·simp
  ·rw [MJ (V _ H)]
  ·simp
  ·rw [MJ (W _ H)]
 case tau.tau G _=>exact G f h
 case rep.rep G _=>exact G f h
 case sum.sum G J _ _=>exact⟨G f h.1,J f h.2⟩
 case par.par G J _ _=>exact⟨G f h.1,J f h.2⟩
theorem AE.dead:∀{p:T A} {q:T B} {ρ:A->Nat} {σ:B->Nat},AE ρ p σ q->p.dead=q.dead:=by
 intro p
 induction p<;>intro q ρ σ h<;>cases q<;>simp only [AE]at h<;>simp only [T.dead]
 case res.res G _ _=>exact G (h 0)
 case mat.mat G _ _ _=>exact G h.2.2
 case rep.rep G _=>exact G h
 case sum.sum G H _ _=>rw [G h.1,H h.2]
 case par.par G H _ _=>rw [G h.1,H h.2]
theorem AE.free:∀{p:T A} {q:T B} {ρ:A->Nat} {σ:B->Nat},AE ρ p σ q->∀x,p.Fr x->∃y,q.Fr y/\σ y=ρ x:=by
 intro p
 induction p<;>intro q ρ σ h x G<;>cases q<;>simp only [AE]at h
 case nil.nil=>exact G.elim
 case snd.snd H _ _ _=>
  rcases G with rfl | rfl | G
  ·exact⟨_,.inl rfl,h.1.symm⟩
  ·exact⟨_,.inr (.inl rfl),h.2.1.symm⟩
  ·obtain⟨y,J,V⟩:=H h.2.2 x G;exact⟨y,.inr (.inr J),V⟩
 case mat.mat H _ _ _=>
  rcases G with rfl | rfl | G
  ·exact⟨_,.inl rfl,h.1.symm⟩
  ·exact⟨_,.inr (.inl rfl),h.2.1.symm⟩
  ·obtain⟨y,J,V⟩:=H h.2.2 x G;exact⟨y,.inr (.inr J),V⟩
 case rcv.rcv p H _ _ q=>
  rcases G with rfl | ⟨W,G⟩
  ·exact⟨_,.inl rfl,h.1.symm⟩
  ·obtain⟨u,J,V⟩:=bV p q ρ σ;obtain⟨y,h3,h4⟩:=H (h.2 u) x G;rw [bH _ _ W]at h4;unfold aI at h4;split at h4
   ·exact absurd h4.symm (J x G)
   ·rename_i hy;exact⟨y,.inr ⟨hy,h3⟩,h4⟩
 case res.res p H _ q=>
  obtain⟨W,G⟩:=G;obtain⟨u,J,V⟩:=bV p q ρ σ;obtain⟨y,h3,h4⟩:=H (h u) x G;rw [bH _ _ W]at h4;unfold aI at h4;split at h4
  ·exact absurd h4.symm (J x G)
  ·rename_i hy;exact⟨y,⟨hy,h3⟩,h4⟩
 case tau.tau H _=>exact H h x G
 case rep.rep H _=>exact H h x G
 case sum.sum H Z _ _=>
  rcases G with G | G
  ·obtain⟨y,J,V⟩:=H h.1 x G;exact⟨y,.inl J,V⟩
  ·obtain⟨y,J,V⟩:=Z h.2 x G;exact⟨y,.inr J,V⟩
 case par.par H Z _ _=>
  rcases G with G | G
  ·obtain⟨y,J,V⟩:=H h.1 x G;exact⟨y,.inl J,V⟩
  ·obtain⟨y,J,V⟩:=Z h.2 x G;exact⟨y,.inr J,V⟩
def eP (ρ:A->Nat)(p:T A):Prop:=∀x y,p.Us x->p.Us y->ρ x=ρ y->x=y
theorem eP.aI {ρ:A->Nat}{p:T A}{x:A}{v:Nat}(h:∀y z,y≠x->z≠x->p.Us y->p.Us z->ρ y=ρ z->y=z)(J:∀y,y≠x->p.Us y->ρ y≠v):eP (aI ρ x v) p:=by
 intro y z V W e;unfold Proofs.YtdecokaadekjnaaGreat.aI at e;split at e<;>split at e
 ·rename_i G H;rw [G,H]
 ·rename_i G H;exact absurd e.symm (J z H W)
 ·rename_i G H;exact absurd e (J y G V)
 ·rename_i G H;exact h y z G H V W e
theorem AE.used:∀{p:T A} {q:T B} {ρ:A->Nat} {σ:B->Nat},AE ρ p σ q->eP ρ p->eP σ q->∀x,p.Us x->∃y,q.Us y/\σ y=ρ x:=by
 intro p
 induction p<;>intro q ρ σ h i j x G<;>cases q<;>simp only [AE]at h
 case nil.nil=>exact G.elim
 case snd.snd Z _ _ _=>
  rcases G with rfl | rfl | G
  ·exact⟨_,.inl rfl,h.1.symm⟩
  ·exact⟨_,.inr (.inl rfl),h.2.1.symm⟩
  ·obtain⟨y,J,W⟩:=Z h.2.2 (λx y G H=>i x y (.inr (.inr G)) (.inr (.inr H))) (λx y G H=>j x y (.inr (.inr G)) (.inr (.inr H))) x G;exact⟨y,.inr (.inr J),W⟩
 case mat.mat p Z c d q=>
  have hd:p.dead=q.dead:=h.2.2.dead;rcases G with⟨e,G⟩ | ⟨e,β,G⟩
  ·subst e;have e2:σ c=σ d:=h.1.symm.trans h.2.1;have hl:p.dead=false:=by
    cases hq:p.dead with
    | false=>rfl
    | true=>exact absurd G (T.bz hq)
   have V:c=d:=by
    refine NI λα=>α (j c d ?_ ?_ e2)
    ·exact .inr ⟨α,hd▸hl,.inl rfl⟩
    ·exact .inr ⟨α,hd▸hl,.inr (.inl rfl)⟩
   obtain⟨y,J,W⟩:=Z h.2.2 (λx y G H=>i x y (.inl ⟨rfl,G⟩) (.inl ⟨rfl,H⟩)) (λx y G H=>j x y (.inl ⟨V,G⟩) (.inl ⟨V,H⟩)) x G;exact⟨y,.inl ⟨V,J⟩,W⟩
  ·rename_i a b;have V:c≠d:=by
    rintro rfl
    exact e (i a b (.inr ⟨e,β,.inl rfl⟩) (.inr ⟨e,β,.inr (.inl rfl)⟩) (h.1.trans h.2.1.symm))
   have γ:q.dead=false:=hd▸β;rcases G with rfl | rfl | G
   ·exact⟨c,.inr ⟨V,γ,.inl rfl⟩,h.1.symm⟩
   ·exact⟨d,.inr ⟨V,γ,.inr (.inl rfl)⟩,h.2.1.symm⟩
   ·obtain⟨y,J,W⟩:=Z h.2.2 (λx y G H=>i x y (.inr ⟨e,β,.inr (.inr G)⟩) (.inr ⟨e,β,.inr (.inr H)⟩))
     (λx y G H=>j x y (.inr ⟨V,γ,.inr (.inr G)⟩) (.inr ⟨V,γ,.inr (.inr H)⟩)) x G
    exact⟨y,.inr ⟨V,γ,.inr (.inr J)⟩,W⟩
 case rcv.rcv p Z _ _ q=>
  rcases G with rfl | ⟨α,G⟩
  ·exact⟨_,.inl rfl,h.1.symm⟩
  ·obtain⟨u,J,W⟩:=bV p q ρ σ;obtain⟨y,h3,h4⟩:=Z (h.2 u) (.aI (λy z H hz h5 h6=>i y z (.inr ⟨H,h5⟩) (.inr ⟨hz,h6⟩)) λy _ H=>J y (T.bs H))
    (.aI (λy z H hz h5 h6=>j y z (.inr ⟨H,h5⟩) (.inr ⟨hz,h6⟩)) λy _ H=>W y (T.bs H)) x G
   rw [bH _ _ α]at h4;unfold aI at h4;split at h4
   ·exact absurd h4.symm (J x (T.bs G))
   ·rename_i H;exact⟨y,.inr ⟨H,h3⟩,h4⟩
 case res.res p Z _ q=>
  obtain⟨α,G⟩:=G;obtain⟨u,J,W⟩:=bV p q ρ σ;obtain⟨y,h3,h4⟩:=Z (h u) (.aI (λy z H hz h5 h6=>i y z ⟨H,h5⟩ ⟨hz,h6⟩) λy _ H=>J y (T.bs H))
    (.aI (λy z H hz h5 h6=>j y z ⟨H,h5⟩ ⟨hz,h6⟩) λy _ H=>W y (T.bs H)) x G
  rw [bH _ _ α]at h4;unfold aI at h4;split at h4
  ·exact absurd h4.symm (J x (T.bs G))
  ·rename_i H;exact⟨y,⟨H,h3⟩,h4⟩
 case tau.tau Z _=>exact Z h i j x G
 case rep.rep Z _=>exact Z h i j x G
 case sum.sum Z δ _ _=>
  rcases G with G | G
  ·obtain⟨y,J,W⟩:=Z h.1 (λx y G H=>i x y (.inl G) (.inl H)) (λx y G H=>j x y (.inl G) (.inl H)) x G;exact⟨y,.inl J,W⟩
  ·obtain⟨y,J,W⟩:=δ h.2 (λx y G H=>i x y (.inr G) (.inr H)) (λx y G H=>j x y (.inr G) (.inr H)) x G;exact⟨y,.inr J,W⟩
 case par.par Z δ _ _=>
  rcases G with G | G
  ·obtain⟨y,J,W⟩:=Z h.1 (λx y G H=>i x y (.inl G) (.inl H)) (λx y G H=>j x y (.inl G) (.inl H)) x G;exact⟨y,.inl J,W⟩
  ·obtain⟨y,J,W⟩:=δ h.2 (λx y G H=>i x y (.inr G) (.inr H)) (λx y G H=>j x y (.inr G) (.inr H)) x G;exact⟨y,.inr J,W⟩
def aC (p:T A)(old nm:A)(q:T A):Prop:=∀ρ:A->Nat,AE (aI ρ old (ρ nm)) p ρ q
def sw (c old nm:A):A:=if c=old then nm else c
theorem mK (ρ:A->Nat)(c old nm:A):aI ρ old (ρ nm) c=ρ (sw c old nm):=by
 unfold aI sw;split<;>rfl
theorem aC.skip {p:T A}{old nm:A}(h:¬p.Fr old):aC p old nm p:=λρ=>
 (AE.refl p ρ).congr (λx G=>by
  unfold aI;split
  ·rename_i e;subst e;exact absurd G h
  ·rfl) λ _ _=>rfl
theorem aC.same {p:T A}(old:A):aC p old old p:=λρ=>
 (AE.refl p ρ).congr (λx G=>by
  unfold aI;split
  ·rename_i e;subst e;rfl
  ·rfl) λ _ _=>rfl
theorem aC.snd {p q:T A}{old nm:A}(a b:A)(h:aC p old nm q):aC (.snd a b p) old nm (.snd (sw a old nm) (sw b old nm) q):=λρ=>
 ⟨mK ..,mK ..,h ρ⟩
theorem aC.mat {p q:T A}{old nm:A}(a b:A)(h:aC p old nm q):aC (.mat a b p) old nm (.mat (sw a old nm) (sw b old nm) q):=λρ=>
 ⟨mK ..,mK ..,h ρ⟩
theorem aC.tau {p q:T A}{old nm:A}(h:aC p old nm q):aC (.tau p) old nm (.tau q):=λρ=>h ρ
theorem aC.rep {p q:T A}{old nm:A}(h:aC p old nm q):aC (.rep p) old nm (.rep q):=λρ=>h ρ
theorem aC.sum {p q G H:T A}{old nm:A}(h:aC p old nm q)(J:aC G old nm H):aC (.sum p G) old nm (.sum q H):=λρ=>⟨h ρ,J ρ⟩
theorem aC.par {p q G H:T A}{old nm:A}(h:aC p old nm q)(J:aC G old nm H):aC (.par p G) old nm (.par q H):=λρ=>⟨h ρ,J ρ⟩
theorem aC.under {p q:T A}{old nm x:A}(H:x≠old)(G:x≠nm\/¬p.Fr old)(h:aC p old nm q)(ρ:A->Nat)(v:Nat):
  AE (aI (aI ρ old (ρ nm)) x v) p (aI ρ x v) q:=by
 refine(h (aI ρ x v)).congr (λz V=>?_) λ _ _=>rfl
 by_cases J:z=old
 ·subst J;rcases G with G | G
  ·simp [aI,PB G,PB H]
  ·exact absurd V G
 ·by_cases W:z=x<;>simp [aI,J,W,H]
theorem aC.over {p:T A}{old nm:A}(ρ:A->Nat)(v:Nat):AE (aI (aI ρ old (ρ nm)) old v) p (aI ρ old v) p:=by
 refine(AE.refl p (aI ρ old v)).congr (λz G=>?_) λ _ _=>rfl
 unfold aI;split<;>rfl
theorem aC.cap {p W Z:T A}{old nm y:A}(ho:nm≠old)(hy:¬p.Fr y)(G:y≠old)(H:y≠nm)(h1:aC p nm y W)(h2:aC W old nm Z)(ρ:A->Nat)(v:Nat):
  AE (aI (aI ρ old (ρ nm)) nm v) p (aI ρ y v) Z:=by
 have k2:=h2 (aI ρ y v);have k1:=h1 (aI (aI ρ y v) old (aI ρ y v nm));refine(AE.trans k1 k2).congr (λz hz=>?_) λ _ _=>rfl
 have J:z≠y:=by rintro rfl;exact hy hz
 by_cases V:z=nm
 ·subst V;simp [aI,G]
 ·by_cases e2:z=old
  ·subst e2;simp [aI,V,PB H]
  ·simp [aI,V,e2,J]
theorem aC.DP {p q:T A}{old nm x:A}(G:x≠old)(H:x≠nm\/¬p.Fr old)(h:aC p old nm q):aC (.res x p) old nm (.res x q):=λρ v=>h.under G H ρ v
theorem aC.DD {p q:T A}{old nm x:A}(a:A)(G:x≠old)(H:x≠nm\/¬p.Fr old)(h:aC p old nm q):aC (.rcv a x p) old nm (.rcv (sw a old nm) x q):=λρ=>
 ⟨mK ..,λv=>h.under G H ρ v⟩
theorem aC.G5 {p:T A}{old nm:A}(a:A):aC (.rcv a old p) old nm (.rcv (sw a old nm) old p):=λρ=>⟨mK ..,λv=>aC.over ρ v⟩
theorem aC.HN {p J V:T A}{old nm y:A}(W:nm≠old)(Z:¬p.Fr y)(G:y≠old)(H:y≠nm)(h1:aC p nm y J)(h2:aC J old nm V):aC (.res nm p) old nm (.res y V):=λρ v=>
 aC.cap W Z G H h1 h2 ρ v
theorem aC.Il {p J V:T A}{old nm y:A}(a:A)(W:nm≠old)(Z:¬p.Fr y)(G:y≠old)(H:y≠nm)(h1:aC p nm y J)(h2:aC J old nm V):aC (.rcv a nm p) old nm (.rcv (sw a old nm) y V):=λρ=>
 ⟨mK ..,λv=>aC.cap W Z G H h1 h2 ρ v⟩
theorem AE.renamed {p q:T A}{old nm:A}(h:aC p old nm q){u:T B}{ρ:A->Nat}{σ:B->Nat}(G:∀x,p.Fr x->ρ x=ρ old->x=old)(k:AE ρ p σ u):AE ρ q (λx=>if σ x=ρ old then ρ nm else σ x) u:=by
 have H:=k.map (λv=>if v=ρ old then ρ nm else v);refine(h ρ).symm.trans (H.congr (λx J=>?_) λ _ _=>rfl);unfold aI;by_cases e:x=old
 ·subst e;simp
 ·rw [MJ (λh=>e (G x J h)),MJ e]
end
inductive K where
 | s | r | t | m | p
 deriving DecidableEq
inductive Lv where
 | nil
 | thr (k:K) (a b:Nat) (own:List Nat) (rest:Lv) (next:Lv)
 | sum (parts:Lv) (next:Lv)
 | part (own:List Nat) (q:Lv) (next:Lv)
namespace Lv
def app:Lv->Lv->Lv
 | nil,m=>m
 | thr k a b o r n,m=>thr k a b o r (n.app m)
 | sum ps n,m=>sum ps (n.app m)
 | part o q n,m=>part o q (n.app m)
def len:Lv->Nat
 | nil=>0 | thr _ _ _ _ _ n=>n.len+1 | sum _ n=>n.len+1 | part _ _ n=>n.len+1
def isNil:Lv->Bool
 | nil=>true | _=>false
theorem aX:∀l:Lv,l.app nil=l
 | nil=>rfl
 | thr k a b o r n=>by rw [app,aX n]
 | sum ps n=>by rw [app,aX n]
 | part o q n=>by rw [app,aX n]
theorem ch:∀l m n:Lv,(l.app m).app n=l.app (m.app n)
 | nil,m,n=>rfl
 | thr k a b o r x,m,n=>by simp only [app,ch x m n]
 | sum ps x,m,n=>by simp only [app,ch x m n]
 | part o q x,m,n=>by simp only [app,ch x m n]
theorem dS:∀l m:Lv,(l.app m).len=l.len+m.len
 | nil,m=>by simp [app,len]
 | thr k a b o r x,m=>by simp only [app,len,dS x m];omega
 | sum ps x,m=>by simp only [app,len,dS x m];omega
 | part o q x,m=>by simp only [app,len,dS x m];omega
theorem dh (l:Lv):l.isNil=decide (l.len=0):=by cases l<;>simp [isNil,len]
def has (x:Nat):Lv->Bool
 | nil=>false
 | thr k a b _ rest next=>((k== .s||k== .m||k== .r)&&(a==x||b==x))||rest.has x||next.has x
 | sum ps next=>ps.has x||next.has x
 | part _ q next=>q.has x||next.has x
theorem cS (x:Nat):∀l m:Lv,(l.app m).has x=(l.has x||m.has x)
 | nil,m=>by simp [app,has]
 | thr k a b o r n,m=>by simp only [app,has,cS x n m,NZ]
 | sum ps n,m=>by simp only [app,has,cS x n m,NZ]
 | part o q n,m=>by simp only [app,has,cS x n m,NZ]
def spl (ps:Lv)(n:List Nat×Lv):List Nat×Lv:=match ps with
 | nil=>n
 | part o q nil=>(o++n.1,q.app n.2)
 | ps=>(n.1,sum ps n.2)
def prt (o:List Nat)(q:Lv)(n:Lv):Lv:=match q with
 | nil=>n
 | sum ps nil=>if o.isEmpty then ps.app n else part o q n
 | q=>part o q n
def kept (own:List Nat)(r:List Nat×Lv):List Nat×Lv:=((own++r.1).filter λx=>r.2.has x,r.2)
def tid:Lv->List Nat×Lv
 | nil=>([],nil)
 | thr k a b own rest next=>
  let r:=kept own (tid rest)
  let n:=tid next
  if k= .m/\a=b then(r.1++n.1,r.2.app n.2)
  else if(k= .m\/k= .p)/\r.2.isNil=true then n
  else(n.1,thr k a b r.1 r.2 n.2)
 | sum ps next=>spl (tid ps).2 (tid next)
 | part own q next=>let r:=kept own (tid q);([],prt r.1 r.2 (tid next).2)
def tidy (own:List Nat)(l:Lv):List Nat×Lv:=kept own (tid l)
def ft:Lv->Bool
 | nil=>true | thr _ _ _ _ _ n=>n.ft | sum _ n=>n.ft | part .. =>false
theorem nL:∀l m:Lv,(l.app m).ft=(l.ft&&m.ft)
 | nil,m=>by simp [app,ft]
 | thr k a b o r n,m=>by simp only [app,ft,nL n m]
 | sum ps n,m=>by simp only [app,ft,nL n m]
 | part o q n,m=>by simp [app,ft]
theorem Hd (ps:Lv)(n m:List Nat×Lv):spl ps (n.1++m.1,n.2.app m.2)=((spl ps n).1++m.1,(spl ps n).2.app m.2):=by
 unfold spl;split<;>simp [app,ch]
theorem cH:∀l m:Lv,l.ft=true->tid (l.app m)=((tid l).1++(tid m).1,(tid l).2.app (tid m).2)
 | nil,m,_=>by simp [app,tid]
 | thr k a b o r n,m,h=>by
  simp only [app,tid,cH n m h];split
  ·simp [ch]
  ·split
   ·rfl
   ·simp [app]
 | sum ps n,m,h=>by
  simp only [app,tid,cH n m h];exact Hd _ _ _
 | part ..,_,h=>by cases h
end Lv
abbrev U:=T Nat
def flat:U->List Nat×Lv
 | .nil=>([],.nil)
 | .snd a b p=>([],.thr .s a b (flat p).1 (flat p).2 .nil)
 | .rcv a x p=>([],.thr .r a x (flat p).1 (flat p).2 .nil)
 | .tau p=>([],.thr .t 0 0 (flat p).1 (flat p).2 .nil)
 | .sum p q=>([],.sum (.part (flat p).1 (flat p).2 (.part (flat q).1 (flat q).2 .nil)) .nil)
 | .par p q=>((flat p).1++(flat q).1,(flat p).2.app (flat q).2)
 | .res x p=>(x::(flat p).1,(flat p).2)
 | .mat a b p=>([],.thr .m a b (flat p).1 (flat p).2 .nil)
 | .rep p=>([],.thr .p 0 0 (flat p).1 (flat p).2 .nil)
theorem bW:∀u:U,(flat u).2.ft=true
 | .nil=>rfl | .snd .. =>rfl | .rcv .. =>rfl | .tau .. =>rfl | .sum .. =>rfl | .mat .. =>rfl | .rep .. =>rfl
 | .res x p=>bW p
 | .par p q=>by simp [flat,Lv.nL,bW p,bW q]
def td (u:U):List Nat×Lv:=Lv.tidy (flat u).1 (flat u).2
def BV:U->List Nat
 | .nil=>[] | .snd _ _ p=>BV p | .rcv _ x p=>x::BV p | .tau p=>BV p | .sum p q=>BV p++BV q
 | .par p q=>BV p++BV q | .res x p=>x::BV p | .mat _ _ p=>BV p | .rep p=>BV p
structure Uq (u:U):Prop where
 nd:(BV u).Nodup
 nf:∀x∈BV u,¬u.Fr x
section
variable {a b x:Nat} {p q:U}
theorem Uq.snd (h:Uq (.snd a b p)):Uq p:=⟨h.nd,λx G H=>h.nf x G (.inr (.inr H))⟩
theorem Uq.mat (h:Uq (.mat a b p)):Uq p:=⟨h.nd,λx G H=>h.nf x G (.inr (.inr H))⟩
theorem Uq.tau (h:Uq (.tau p)):Uq p:=⟨h.nd,h.nf⟩
theorem Uq.rep (h:Uq (.rep p)):Uq p:=⟨h.nd,h.nf⟩
theorem Uq.rcv (h:Uq (.rcv a x p)):Uq p:=by
 have G:=Nw.1 h.nd;exact⟨G.2,λy H J=>h.nf y (MD _ H) (.inr ⟨λe=>G.1 (e▸H),J⟩)⟩
theorem Uq.res (h:Uq (.res x p)):Uq p:=by
 have G:=Nw.1 h.nd;exact⟨G.2,λy H J=>h.nf y (MD _ H) ⟨λe=>G.1 (e▸H),J⟩⟩
theorem Uq.fD (h:Uq (.res x p)):x∉BV p:=(Nw.1 h.nd).1
theorem Uq.lk (h:Uq (.rcv a x p)):x∉BV p:=(Nw.1 h.nd).1
theorem Uq.fG (h:Uq (.par p q)):Uq p:=⟨(M6.1 h.nd).1,λx G H=>h.nf x (M0 _ G) (.inl H)⟩
theorem Uq.fv (h:Uq (.par p q)):Uq q:=⟨(M6.1 h.nd).2.1,λx G H=>h.nf x (MT _ G) (.inr H)⟩
theorem Uq.dP (h:Uq (.sum p q)):Uq p:=⟨(M6.1 h.nd).1,λx G H=>h.nf x (M0 _ G) (.inl H)⟩
theorem Uq.dz (h:Uq (.sum p q)):Uq q:=⟨(M6.1 h.nd).2.1,λx G H=>h.nf x (MT _ G) (.inr H)⟩
end
def aj:U->List Nat×List U
 | .nil=>([],[])
 | .snd a b p=>([],[.snd a b p])
 | .rcv a x p=>([],[.rcv a x p])
 | .tau p=>([],[.tau p])
 | .sum p q=>if p.dead then aj q else if q.dead then aj p else([],[.sum p q])
 | .par p q=>((aj p).1++(aj q).1,(aj p).2++(aj q).2)
 | .res x p=>(if(td p).2.has x then x::(aj p).1 else(aj p).1,(aj p).2)
 | .mat a b p=>if a=b then aj p else if p.dead then([],[])else([],[.mat a b p])
 | .rep p=>if p.dead then([],[])else([],[.rep p])
def ak:U->List U
 | .nil=>[]
 | .snd a b p=>[.snd a b p]
 | .rcv a x p=>[.rcv a x p]
 | .tau p=>[.tau p]
 | .sum p q=>ak p++ak q
 | .par p q=>if p.dead then ak q else if q.dead then ak p else [.par p q]
 | .res x p=>if(td p).2.has x then [.res x p]else ak p
 | .mat a b p=>if a=b then ak p else if p.dead then []else [.mat a b p]
 | .rep p=>if p.dead then []else [.rep p]
def tp:List U->Lv
 | []=> .nil
 | u::l=> .part (td u).1 (td u).2 (tp l)
def tl:List U->Lv
 | []=> .nil
 | .snd a b p::l=> .thr .s a b (td p).1 (td p).2 (tl l)
 | .rcv a x p::l=> .thr .r a x (td p).1 (td p).2 (tl l)
 | .tau p::l=> .thr .t 0 0 (td p).1 (td p).2 (tl l)
 | .mat a b p::l=> .thr .m a b (td p).1 (td p).2 (tl l)
 | .rep p::l=> .thr .p 0 0 (td p).1 (td p).2 (tl l)
 | .sum p q::l=> .sum (tp (ak p++ak q)) (tl l)
 | _::l=>tl l
theorem gA:∀l m:List U,tl (l++m)=(tl l).app (tl m)
 | [],m=>rfl
 | u::l,m=>by cases u<;>simp only [Ns,tl,Lv.app,gA l m]
theorem tA:∀l m:List U,tp (l++m)=(tp l).app (tp m)
 | [],m=>rfl
 | u::l,m=>by simp only [Ns,tp,Lv.app,tA l m]
theorem Bb:∀l:List U,(tp l).len=l.length
 | []=>rfl
 | u::l=>by simp only [tp,Lv.len,Mm,Bb l]
def cp (u:U):Lv:=Lv.prt (td u).1 (td u).2 .nil
theorem lH (o:List Nat)(q n:Lv):Lv.prt o q n=(Lv.prt o q .nil).app n:=by
 unfold Lv.prt;split
 ·rfl
 ·split<;>simp [Lv.app,Lv.aX]
 ·rfl
theorem qB (u:U):(td u).2=(Lv.tid (flat u).2).2:=rfl
theorem oD (p q:U):Lv.tid (flat (.sum p q)).2=Lv.spl ((cp p).app (cp q)) ([],.nil):=by
 simp only [flat,Lv.tid]
 congr 1
 rw [lH];rfl
theorem oN (a b:Nat)(p:U):Lv.tid (flat (.mat a b p)).2=if a=b then td p else if(td p).2.isNil then([],.nil)else([],.thr .m a b (td p).1 (td p).2 .nil):=by
 have G:(Lv.kept (flat p).1 (Lv.tid (flat p).2))=td p:=rfl;simp only [flat,Lv.tid,G,MY,Lv.aX];by_cases h:a=b<;>simp [h]
theorem oC (p:U):Lv.tid (flat (.rep p)).2=if(td p).2.isNil then([],.nil)else([],.thr .p 0 0 (td p).1 (td p).2 .nil):=by
 have G:(Lv.kept (flat p).1 (Lv.tid (flat p).2))=td p:=rfl;simp only [flat,Lv.tid,G];simp
theorem bD:∀u:U,((td u).2.len=0↔u.dead=true)/\((cp u).len=0↔u.dead=true)/\(td u).2.ft=true/\(∀ps,(td u).2= .sum ps .nil->2<=ps.len):=by
 intro u;have β:∀u:U,(((td u).2.len=0↔u.dead=true)/\(td u).2.ft=true/\(∀ps,(td u).2= .sum ps .nil->2<=ps.len))->((cp u).len=0↔u.dead=true):=by
  intro u ⟨h,_,h2⟩;rw [<-h];unfold cp Lv.prt;split
  ·rename_i e;rw [e]
  ·rename_i ps e;have :=h2 ps e;rw [e];split<;>simp [Lv.len,Lv.dS]<;>omega
  ·rename_i e1 e2;cases e:(td u).2<;>simp [Lv.len]
   exact e1 e
 suffices h:((td u).2.len=0↔u.dead=true)/\(td u).2.ft=true/\(∀ps,(td u).2= .sum ps .nil->2<=ps.len)from⟨h.1,β u h,h.2⟩
 induction u with
 | nil=>simp [qB,flat,Lv.tid,Lv.len,T.dead,Lv.ft]
 | snd a b p G=>simp [qB,flat,Lv.tid,Lv.len,T.dead,Lv.ft]
 | rcv a b p G=>simp [qB,flat,Lv.tid,Lv.len,T.dead,Lv.ft]
 | tau p G=>simp [qB,flat,Lv.tid,Lv.len,T.dead,Lv.ft]
 | res x p G=>exact G
 | par p q G H=>
  have e:(td (.par p q)).2=(td p).2.app (td q).2:=by simp only [qB,flat,Lv.cH _ _ (bW p)]
  rw [e];refine⟨?_,?_,λps W=>?_⟩
  ·rw [Lv.dS,T.dead,Mp,<-G.1,<-H.1];omega
  ·rw [Lv.nL,G.2.1,H.2.1];rfl
  ·cases h:(td p).2 with
   | nil=>rw [h]at W;exact H.2.2 ps W
   | thr=>rw [h]at W;cases W
   | part=>rw [h]at W;cases W
   | sum ε n=>
    rw [h]at W;simp only [Lv.app,Lv.sum.injEq]at W;obtain⟨rfl,hn⟩:=W;have:n= .nil:=by
     cases n<;>simp [Lv.app]at hn
     rfl
    subst this;exact G.2.2 _ h
 | mat a b p G=>
  rw [qB,oN,Lv.dh];by_cases γ:a=b
  ·rw [MZ γ];exact G
  ·rw [MJ γ];by_cases hd:(td p).2.len=0
   ·simp only [hd,decide_true,Ol,Lv.len,T.dead,G.1.1 hd,Lv.ft,Ox];intro ps h;cases h
   ·have:p.dead=false:=by
     cases h:p.dead with
     | false=>rfl
     | true=>exact absurd (G.1.2 h) hd
    simp [hd,Lv.len,T.dead,this,Lv.ft]
 | rep p G=>
  rw [qB,oC,Lv.dh];by_cases hd:(td p).2.len=0
  ·simp only [hd,decide_true,Ol,Lv.len,T.dead,G.1.1 hd,Lv.ft,Ox];intro ps h;cases h
  ·have:p.dead=false:=by
    cases h:p.dead with
    | false=>rfl
    | true=>exact absurd (G.1.2 h) hd
   simp [hd,Lv.len,T.dead,this,Lv.ft]
 | sum p q G H=>
  have h1:=β p G;have h2:=β q H;rw [qB,oD];have hlen:((cp p).app (cp q)).len=0↔(T.sum p q).dead=true:=by
   rw [Lv.dS,T.dead,Mp,<-h1,<-h2];omega
  have α:∀u:U,(((td u).2.len=0↔u.dead=true)/\(td u).2.ft=true/\(∀ps,(td u).2= .sum ps .nil->2<=ps.len))->∀o r,cp u= .part o r .nil->o=(td u).1/\r=(td u).2/\r.len≠0:=by
   intro u ⟨h,h3,h4⟩ o r he;unfold cp Lv.prt at he;split at he
   ·cases he
   ·rename_i ps e;split at he
    ·rw [Lv.aX]at he;have :=h4 ps e;rw [he]at this;simp [Lv.len]at this
    ·cases he;exact⟨rfl,rfl,by rw [e];simp [Lv.len]⟩
   ·rename_i e1 e2;cases he;refine⟨rfl,rfl,λJ=>e1 ?_⟩;cases e:(td u).2<;>rw [e]at J<;>first | rfl | (simp [Lv.len]at J)
  unfold Lv.spl;split
  ·rename_i e;rw [e]at hlen;simp only [Lv.len,true_iff]at hlen;simp [Lv.len,hlen,Lv.ft]
  ·rename_i o r e;have hl:(T.sum p q).dead=false:=by
    cases h:(T.sum p q).dead with
    | false=>rfl
    | true=>rw [<-hlen,e]at h;simp [Lv.len]at h
   simp only [Lv.aX,hl];have key:(cp p= .nil/\cp q= .part o r .nil)\/(cp p= .part o r .nil/\cp q= .nil):=by
    cases Z:cp p with
    | nil=>rw [Z]at e;exact .inl ⟨rfl,e⟩
    | thr=>rw [Z]at e;cases e
    | sum=>rw [Z]at e;cases e
    | part o' r' n=>
     rw [Z]at e;simp only [Lv.app,Lv.part.injEq]at e;obtain⟨rfl,rfl,e⟩:=e;cases n<;>simp only [Lv.app]at e
     ·exact .inr ⟨rfl,e⟩
     all_goals cases e
   rcases key with⟨_,Z⟩ | ⟨Z,_⟩
   ·obtain⟨_,rfl,J⟩:=α q H o r Z;exact⟨by simp [J],H.2.1,H.2.2⟩
   ·obtain⟨_,rfl,J⟩:=α p G o r Z;exact⟨by simp [J],G.2.1,G.2.2⟩
  ·rename_i ps e1 e2;have δ:((cp p).app (cp q)).len≠0:=by
    intro J;apply e1;cases h:(cp p).app (cp q)<;>rw [h]at J<;>first | rfl | (simp [Lv.len]at J)
   have hl:(T.sum p q).dead=false:=by
    cases h:(T.sum p q).dead with
    | false=>rfl
    | true=>exact absurd (hlen.2 h) δ
   refine⟨by simp [Lv.len,hl],rfl,λε W=>?_⟩;simp only [Lv.sum.injEq,O8]at W;subst W;have V:∀u:U,(((td u).2.len=0↔u.dead=true)/\(td u).2.ft=true/\(∀ps,(td u).2= .sum ps .nil->2<=ps.len))->(cp u).len=1->∃o r,cp u= .part o r .nil:=by
    intro u ⟨h,h3,h4⟩ hl;unfold cp Lv.prt at hl|-;split at hl
    ·simp [Lv.len]at hl
    ·rename_i ps e;split at hl
     ·rw [Lv.aX]at hl;have :=h4 ps e;omega
     ·rename_i hh;rw [MJ hh];exact⟨_,_,rfl⟩
    ·exact⟨_,_,rfl⟩
   rw [Lv.dS]at δ|-;rcases N2 1 ((cp p).len+(cp q).len)with h | h
   ·omega
   ·exfalso;rcases O0 (cp p).len with J | J
    ·obtain⟨o,r,Z⟩:=V q H (by omega);have:cp p= .nil:=by cases hh:cp p<;>rw [hh]at J<;>first | rfl | (simp [Lv.len]at J)
     exact e2 o r (by rw [this,Z];rfl)
    ·obtain⟨o,r,Z⟩:=V p G (by omega);have:cp q= .nil:=by
      have J:(cp q).len=0:=by omega
      cases hh:cp q<;>rw [hh]at J<;>first | rfl | (simp [Lv.len]at J)
     exact e2 o r (by rw [this,Z];rfl)
theorem Ic (x:Nat)(ps:Lv)(n:List Nat×Lv):(Lv.spl ps n).2.has x=(ps.has x||n.2.has x):=by
 unfold Lv.spl;split<;>simp [Lv.has,Lv.cS]
theorem HH (x:Nat)(o:List Nat)(q n:Lv):(Lv.prt o q n).has x=(q.has x||n.has x):=by
 unfold Lv.prt;split
 ·simp [Lv.has]
 ·split<;>simp [Lv.has,Lv.cS]
 ·simp [Lv.has]
theorem ER (x:Nat)(u:U):(cp u).has x=(td u).2.has x:=by
 simp [cp,HH,Lv.has]
theorem kG (u:U):u.dead=false↔(td u).2.len≠0:=by
 rw [Ne,(bD u).1];simp
theorem gz {l:Lv}(h:l.len=0):l= .nil:=by
 cases l<;>first | rfl | (simp [Lv.len]at h)
theorem lA {u:U}(h:u.dead=true):(td u).2= .nil:=gz ((bD u).1.2 h)
theorem dy (u:U):(td u).2.isNil=u.dead:=by
 rw [Lv.dh];cases h:u.dead with
 | true=>simp [(bD u).1.2 h]
 | false=>simpa using(kG u).1 h
theorem fI:∀(u:U) (x:Nat),x∉BV u->((td u).2.has x=true↔u.Us x):=by
 intro u
 induction u with
 | nil=>intro x _;simp [qB,flat,Lv.tid,Lv.has,T.Us]
 | snd a b p H=>
  intro x J;have Z:(Lv.kept (flat p).1 (Lv.tid (flat p).2))=td p:=rfl;have :=H x J;simp [qB,flat,Lv.tid,Lv.has,T.Us,Z];rw [<-qB,this,<-Pm,eq_comm (a:=a),eq_comm (a:=b)]
 | rcv a y p H=>
  intro x J;have G:x≠y/\x∉BV p:=by simpa [BV]using J
  have Z:(Lv.kept (flat p).1 (Lv.tid (flat p).2))=td p:=rfl;have :=H x G.2;simp [qB,flat,Lv.tid,Lv.has,T.Us,Z,G.1];rw [<-qB,this,eq_comm (a:=a)];simp [PB G.1]
 | tau p H=>
  intro x J;have Z:(Lv.kept (flat p).1 (Lv.tid (flat p).2))=td p:=rfl;simp [qB,flat,Lv.tid,Lv.has,T.Us,Z];rw [<-qB,H x J]
 | sum p q H W=>
  intro x J;have G:x∉BV p/\x∉BV q:=by simpa [BV]using J
  rw [qB,oD,Ic,Lv.cS,ER,ER];simp [T.Us,Lv.has,H x G.1,W x G.2]
 | par p q H W=>
  intro x J;have G:x∉BV p/\x∉BV q:=by simpa [BV]using J
  have e:(td (.par p q)).2=(td p).2.app (td q).2:=by simp only [qB,flat,Lv.cH _ _ (bW p)]
  rw [e,Lv.cS];simp [T.Us,H x G.1,W x G.2]
 | res y p H=>
  intro x J;have G:x≠y/\x∉BV p:=by simpa [BV]using J
  show(td p).2.has x=true↔_;simp [T.Us,H x G.2,G.1]
 | mat a b p H=>
  intro x J;have :=H x J;rw [qB,oN];by_cases V:a=b
  ·subst V;simp [T.Us,this]
  ·rw [MJ V,dy];cases hd:p.dead with
   | true=>simp [Lv.has,T.Us,hd,V]
   | false=>
    simp [Lv.has,T.Us,hd,V,this];rw [<-Pm,eq_comm (a:=a),eq_comm (a:=b)]
 | rep p H=>
  intro x J;rw [qB,oC,dy];cases hd:p.dead with
  | true=>simp [Lv.has,T.Us];exact T.bz hd
  | false=>simp [Lv.has,T.Us,H x J]
theorem pb (own:List Nat)(r:List Nat×Lv):Lv.kept [] (Lv.kept own r)=Lv.kept own r:=by
 simp [Lv.kept,List.filter_filter]
theorem E' (u:U):Lv.spl (cp u) ([],.nil)=td u:=by
 have G:=(bD u).2.2.2;have V:=(bD u).2.2.1;have H:(td u).2= .nil->(td u).1=[]:=by
  intro e;show List.filter (λx=>(td u).2.has x) _=[];rw [e];simp [Lv.has]
 unfold cp Lv.prt;split
 ·rename_i e;simp only [Lv.spl];exact Prod.ext (H e).symm e.symm
 ·rename_i ps e;split
  ·rename_i J;rw [Lv.aX];have :=G ps e;unfold Lv.spl;split
   ·simp [Lv.len]at this
   ·simp [Lv.len]at this
   ·exact Prod.ext (by simpa using J.symm) e.symm
  ·simp [Lv.spl,Lv.aX]
 ·simp [Lv.spl,Lv.aX]
theorem filter_false {l:List Nat}{f:Nat->Bool}(h:∀x∈l,f x=false):l.filter f=[]:=by
 simpa [List.filter_eq_nil_iff]using h
def Lv.WO:Lv->Prop
 | .nil=>True
 | .thr _ _ _ o r n=>(∀x∈o,r.has x=true)/\r.WO/\n.WO
 | .sum ps n=>ps.WO/\n.WO
 | .part o q n=>(∀x∈o,q.has x=true)/\q.WO/\n.WO
theorem pG:∀l m:Lv,(l.app m).WO↔l.WO/\m.WO
 | .nil,m=>by simp [Lv.app,Lv.WO]
 | .thr k a b o r n,m=>by simp only [Lv.app,Lv.WO,pG n m,OK]
 | .sum ps n,m=>by simp only [Lv.app,Lv.WO,pG n m,OK]
 | .part o q n,m=>by simp only [Lv.app,Lv.WO,pG n m,OK]
theorem sZ (own:List Nat)(r:List Nat×Lv):∀x∈(Lv.kept own r).1,(Lv.kept own r).2.has x=true:=by
 intro y G;simp only [Lv.kept,Oz]at G;exact G.2
theorem Ko {o:List Nat}{q n:Lv}(h:∀x∈o,q.has x=true)(H:q.WO)(G:n.WO):(Lv.prt o q n).WO:=by
 unfold Lv.prt;split
 ·exact G
 ·split
  ·exact(pG _ _).2 ⟨H.1,G⟩
  ·exact⟨h,H,G⟩
 ·exact⟨h,H,G⟩
theorem Cj:∀(l:Lv),(Lv.tid l).2.WO/\∀x∈(Lv.tid l).1,(Lv.tid l).2.has x=true:=by
 intro l
 induction l with
 | nil=>exact⟨trivial,λx H=>by simp [Lv.tid]at H⟩
 | thr k a b o r n V G=>
  have Z:=sZ o (Lv.tid r);simp only [Lv.tid];split
  ·refine⟨(pG _ _).2 ⟨V.1,G.1⟩,λx H=>?_⟩;simp only [My]at H;rw [Lv.cS];rcases H with H | H
   ·simp [Z x H]
   ·simp [G.2 x H]
  ·split
   ·exact G
   ·refine⟨⟨Z,V.1,G.1⟩,λx H=>?_⟩;simp [Lv.has,G.2 x H]
 | sum ps n J G=>
  simp only [Lv.tid];unfold Lv.spl;split
  ·exact G
  ·rename_i o q e;rw [e]at J;refine⟨(pG _ _).2 ⟨J.1.2.1,G.1⟩,λx H=>?_⟩;simp only [My]at H;rw [Lv.cS];rcases H with H | H
   ·simp [J.1.1 x H]
   ·simp [G.2 x H]
  ·exact⟨⟨J.1,G.1⟩,λx H=>by simp [Lv.has,G.2 x H]⟩
 | part o q n W G=>
  simp only [Lv.tid];exact⟨Ko (sZ o _) W.1 G.1,λx H=>by simp at H⟩
theorem vA:∀(u:U),(∀x∈(flat u).1,x∈BV u)/\∀x∈(Lv.tid (flat u).2).1,x∈BV u:=by
 intro u;have V:∀u:U,((∀x∈(flat u).1,x∈BV u)/\∀x∈(Lv.tid (flat u).2).1,x∈BV u)->∀x∈(td u).1,x∈BV u:=by
  intro u h x G;have G:x∈(Lv.kept (flat u).1 (Lv.tid (flat u).2)).1:=G;simp only [Lv.kept,Oz,My]at G;exact G.1.elim (h.1 x) (h.2 x)
 have Z:∀u:U,(∀x∈(td u).1,x∈BV u)->∀o q n,cp u= .part o q n->(2<=(cp u).len)\/∀x∈o,x∈BV u:=by
  intro u h o q n e;have h1:=(bD u).2.2.2;unfold cp Lv.prt at e|-;split at e
  ·cases e
  ·rename_i ps e';split at e
   ·rename_i hh;rw [MZ hh];left;rw [Lv.aX];exact h1 ps e'
   ·cases e;exact .inr h
  ·cases e;exact .inr h
 induction u with
 | nil=>simp [flat,Lv.tid]
 | snd a b p H=>simp [flat,Lv.tid]
 | rcv a x p H=>simp [flat,Lv.tid]
 | tau p H=>simp [flat,Lv.tid]
 | rep p H=>rw [oC];split<;>simp [flat]
 | mat a b p H=>
  rw [oN];refine⟨by simp [flat],?_⟩;split
  ·exact V p H
  ·split<;>simp
 | res x p H=>
  refine⟨λy W=>?_,λy W=>MD _ (H.2 y W)⟩;simp only [flat,MH]at W;rcases W with rfl | W
  ·exact Nc ..
  ·exact MD _ (H.1 y W)
 | par p q H J=>
  simp only [flat,Lv.cH _ _ (bW p),My,BV];exact⟨λx G=>G.imp (H.1 x) (J.1 x),λx G=>G.imp (H.2 x) (J.2 x)⟩
 | sum p q H J=>
  refine⟨by simp [flat],?_⟩;rw [oD];intro x G;unfold Lv.spl at G;split at G
  ·simp at G
  ·rename_i o r e;simp only [MY]at G;simp only [BV,My];have hl:=Nz Lv.len e;rw [Lv.dS]at hl;simp only [Lv.len]at hl;rcases O0 (cp p).len with h0 | h0
   ·rw [gz h0]at e;rcases Z q (V q J) o r .nil e with h | h
    ·omega
    ·exact .inr (h x G)
   ·have:cp q= .nil:=gz (by omega);rw [this,Lv.aX]at e;rcases Z p (V p H) o r .nil e with h | h
    ·omega
    ·exact .inl (h x G)
  ·simp at G
theorem Lh (u:U):(td u).1=((flat u).1++(Lv.tid (flat u).2).1).filter λx=>(td u).2.has x:=rfl
theorem CQ {u:U}{x:Nat}(hb:x∉BV u)(G:¬u.Fr x):(td u).2.has x=false:=by
 cases h:(td u).2.has x with
 | false=>rfl
 | true=>exact absurd (T.bs ((fI u x hb).1 h)) G
theorem GI {l:List U}(h:(tp l).len=0):l=[]:=by
 rw [Bb]at h;exact MS h
theorem sV (a b c d:List Nat):((a++b)++(c++d)).Perm ((a++c)++(b++d)):=by
 rw [M8,M8];refine List.Perm.append_left a ?_;rw [<-M8,<-M8];exact List.Perm.append_right d OA
theorem fJ:∀u:U,Uq u->(td u).2=tl (aj u).2/\(td u).1.Perm (aj u).1/\cp u=tp (ak u):=by
 intro u
 induction u with
 | nil=>intro _;simp [td,Lv.tidy,Lv.kept,flat,Lv.tid,aj,tl,cp,Lv.prt,ak,tp]
 | snd a b p H=>
  intro h;have hk:(Lv.kept (flat p).1 (Lv.tid (flat p).2))=td p:=rfl;have e:td (.snd a b p)=([],.thr .s a b (td p).1 (td p).2 .nil):=by simp [td,Lv.tidy,flat,Lv.tid,Lv.kept]
  refine⟨by rw [e];rfl,by rw [e];exact NA _,?_⟩;rw [cp,ak,tp,e];rfl
 | rcv a x p H=>
  intro h;have e:td (.rcv a x p)=([],.thr .r a x (td p).1 (td p).2 .nil):=by simp [td,Lv.tidy,flat,Lv.tid,Lv.kept]
  refine⟨by rw [e];rfl,by rw [e];exact NA _,?_⟩;rw [cp,ak,tp,e];rfl
 | tau p H=>
  intro h;have e:td (.tau p)=([],.thr .t 0 0 (td p).1 (td p).2 .nil):=by simp [td,Lv.tidy,flat,Lv.tid,Lv.kept]
  refine⟨by rw [e];rfl,by rw [e];exact NA _,?_⟩;rw [cp,ak,tp,e];rfl
 | rep p H=>
  intro h;have e:td (.rep p)=if p.dead then([],.nil)else([],.thr .p 0 0 (td p).1 (td p).2 .nil):=by
   show Lv.kept [] _=_;rw [oC,dy];split<;>simp [Lv.kept]
  unfold cp;rw [e,aj,ak];split
  ·exact⟨rfl,NA _,rfl⟩
  ·rename_i hd;rw [MJ hd]at e;refine⟨rfl,NA _,?_⟩;rw [tp,e];rfl
 | mat a b p H=>
  intro h;have e:td (.mat a b p)=if a=b then td p else if p.dead then([],.nil)else([],.thr .m a b (td p).1 (td p).2 .nil):=by
   show Lv.kept [] _=_;rw [oN,dy];split
   ·exact pb _ _
   ·split<;>simp [Lv.kept]
  have H:=H h.mat;unfold cp;rw [e,aj,ak];split
  ·exact H
  ·rename_i κ;rw [MJ κ]at e;split
   ·exact⟨rfl,NA _,rfl⟩
   ·rename_i hd;rw [MJ hd]at e;refine⟨rfl,NA _,?_⟩;rw [tp,e];rfl
 | res x p H=>
  intro h;obtain⟨h1,h2,Z⟩:=H h.res;have J:(td (.res x p)).2=(td p).2:=rfl;have V:(td (.res x p)).1=if(td p).2.has x then x::(td p).1 else(td p).1:=by
   rw [Lh,J];simp only [flat,Ns,List.filter_cons];rfl
  refine⟨by rw [J];exact h1,?_,?_⟩
  ·rw [V,aj];split
   ·exact List.Perm.cons x h2
   ·exact h2
  ·rw [ak];split
   ·rename_i G;rw [MZ G]at V;unfold cp Lv.prt;rw [tp,tp];split
    ·rename_i e;rw [J]at e;rw [e]at G;cases G
    ·rename_i ps e;rw [V];rw [MJ (by simp)]
    ·rw [V]
   ·rename_i G;rw [MJ G]at V;rw [<-Z,cp,cp,V,J]
 | par p q H α=>
  intro h;obtain⟨h1,h2,Z⟩:=H h.fG;obtain⟨k1,k2,k3⟩:=α h.fv;have J:(td (.par p q)).2=(td p).2.app (td q).2:=by simp only [qB,flat,Lv.cH _ _ (bW p)]
  have V:(td (.par p q)).1=(((flat p).1++(flat q).1)++((Lv.tid (flat p).2).1++(Lv.tid (flat q).2).1)).filter λx=>(td p).2.has x||(td q).2.has x:=by
   rw [Lh,J];simp only [flat,Lv.cH _ _ (bW p)];exact OL λx _=>Lv.cS x _ _
  have ζ:=M6.1 h.nd;have η:∀x,x∈BV p->(td q).2.has x=false:=λx G=>CQ (λhq=>ζ.2.2 x G x hq rfl) λhf=>h.nf x (M0 _ G) (.inr hf)
  have θ:∀x,x∈BV q->(td p).2.has x=false:=λx G=>CQ (λhq=>ζ.2.2 x hq x G rfl) λhf=>h.nf x (MT _ G) (.inl hf)
  have ι:((flat p).1++(Lv.tid (flat p).2).1).filter (λx=>(td p).2.has x||(td q).2.has x)=(td p).1:=by
   rw [Lh];refine OL λx G=>?_
   rw [η x ((My.1 G).elim ((vA p).1 x) ((vA p).2 x)),OT]
  have β:((flat q).1++(Lv.tid (flat q).2).1).filter (λx=>(td p).2.has x||(td q).2.has x)=(td q).1:=by
   rw [Lh];refine OL λx G=>?_
   rw [θ x ((My.1 G).elim ((vA q).1 x) ((vA q).2 x)),O9]
  refine⟨by rw [J,h1,k1,aj,gA],?_,?_⟩
  ·rw [V,aj];refine((sV _ _ _ _).filter _).trans ?_;rw [NK,ι,β];exact h2.append k2
  ·rw [ak];split
   ·rename_i hd;have ep:=lA hd;have μ:(Lv.tid (flat p).2).1=[]:=by
     refine OD.2 λx G=>?_
     have :=(Cj (flat p).2).2 x G;rw [<-qB,ep]at this;cases this
    have W:(flat p).1.filter (λx=>(td p).2.has x||(td q).2.has x)=[]:=filter_false λx G=>by
     rw [ep,η x ((vA p).1 x G)];rfl
    rw [<-k3,cp,cp,V,J,ep];rw [μ,Nk,M8,NK];rw [ep]at W β;rw [W,Nk,β];rfl
   ·split
    ·rename_i hd;have γ:=lA hd;have ν:(Lv.tid (flat q).2).1=[]:=by
      refine OD.2 λx G=>?_
      have :=(Cj (flat q).2).2 x G;rw [<-qB,γ]at this;cases this
     have W:(flat q).1.filter (λx=>(td p).2.has x||(td q).2.has x)=[]:=filter_false λx G=>by
      rw [γ,θ x ((vA q).1 x G)];rfl
     rw [<-Z,cp,cp,V,J,ν,MY,NK,NK,W,MY,<-NK,ι,γ,Lv.aX]
    ·rename_i δ ε;have l1:=(kG p).1 (by simpa using δ);have l2:=(kG q).1 (by simpa using ε);have hl:2<=(td (.par p q)).2.len:=by rw [J,Lv.dS];omega
     unfold cp Lv.prt;rw [tp,tp];split
     ·rename_i e;rw [e]at hl;simp [Lv.len]at hl
     ·rename_i ps e;rw [e]at hl;simp [Lv.len]at hl
     ·rfl
 | sum p q H α=>
  intro h;obtain⟨h1,h2,Z⟩:=H h.dP;obtain⟨k1,k2,k3⟩:=α h.dz;have e:td (.sum p q)=if p.dead then td q else if q.dead then td p else([],.sum (tp (ak p++ak q)) .nil):=by
   show Lv.kept [] _=_;rw [oD];split
   ·rename_i hd;rw [gz ((bD p).2.1.2 hd)];show Lv.kept [] (Lv.spl (cp q) ([],.nil))=_;rw [E'];exact pb _ _
   ·rename_i δ;split
    ·rename_i hd;rw [gz ((bD q).2.1.2 hd),Lv.aX,E'];exact pb _ _
    ·rename_i ε;have l1:(cp p).len≠0:=λe=>δ ((bD p).2.1.1 e)
     have l2:(cp q).len≠0:=λe=>ε ((bD q).2.1.1 e)
     rw [Z,k3,<-tA]at*;have:2<=(tp (ak p++ak q)).len:=by rw [tA,Lv.dS];omega
     unfold Lv.spl;split
     ·rename_i e;rw [e]at this;simp [Lv.len]at this
     ·rename_i e;rw [e]at this;simp [Lv.len]at this
     ·simp [Lv.kept]
  unfold cp;rw [e,aj,ak];split
  ·rename_i hd;have:ak p=[]:=GI (by rw [<-Z];exact(bD p).2.1.2 hd);rw [this,Nk];exact⟨k1,k2,k3⟩
  ·split
   ·rename_i hd;have:ak q=[]:=GI (by rw [<-k3];exact(bD q).2.1.2 hd);rw [this,MY];exact⟨h1,h2,Z⟩
   ·exact⟨rfl,NA _,by simp [Lv.prt,Lv.aX]⟩
abbrev Tx:=List UInt8
def T.text:T UInt8->Tx
 | .nil=>[48]
 | .snd a b p=>a::33::b::46::p.text
 | .rcv a x p=>a::63::x::46::p.text
 | .tau p=>126::46::p.text
 | .sum p q=>40::(p.text++(43::(q.text++[41])))
 | .par p q=>40::(p.text++(38::(q.text++[41])))
 | .res x p=>35::x::46::p.text
 | .mat a b p=>91::a::61::b::93::p.text
 | .rep p=>42::p.text
def jb (s t:Tx):Bool:=decide (s<=t)
theorem fW (a b c:Tx)(h:jb a b=true)(k:jb b c=true):jb a c=true:=by
 simp only [jb,Mz]at*;exact List.le_trans h k
theorem pd (a b:Tx):(jb a b||jb b a)=true:=by
 simp only [jb,NT,Mz];exact List.le_total a b
theorem zP (a b:Tx)(h:jb a b=true)(k:jb b a=true):a=b:=by
 simp only [jb,Mz]at*;exact List.le_antisymm h k
def aH (l:List Tx):List Tx:=l.mergeSort jb
theorem aE (l:List Tx):(aH l).Perm l:=List.mergeSort_perm l jb
theorem jA (l:List Tx):(aH l).Pairwise (λa b=>jb a b=true):=List.pairwise_mergeSort fW pd l
theorem tw {l m:List Tx}(hm:m.Pairwise (λa b=>jb a b=true))(G:m.Perm l):aH l=m:=
 List.Perm.eq_of_pairwise (λa b _ _=>zP a b) (jA l) hm ((aE l).trans G.symm)
theorem fu {l m:List Tx}(h:l.Perm m):aH l=aH m:=tw (jA m) ((aE m).trans h.symm)
def joinS (sign:UInt8):List Tx->Tx
 | []=>[]
 | [s]=>s
 | s::l=>40::(s++(sign::(joinS sign l++[41])))
def bE (l:List Tx):Tx:=(aH l).headD []
theorem cz {l:List Tx}(h:l≠[]):bE l∈l/\∀s∈l,jb (bE l) s=true:=by
 have G:=aE l;have H:=jA l;unfold bE;cases e:aH l with
 | nil=>rw [e]at G;exact absurd G.symm.eq_nil h
 | cons a r=>
  rw [e]at G H;refine⟨G.subset (Nc ..),λs hm=>?_⟩;have :=G.symm.subset hm;rcases MH.1 this with rfl | hr
  ·simp [jb]
  ·exact(OE.1 H).1 s hr
theorem ga {l:List Tx}{r:Tx}(h:r∈l)(H:∀s∈l,jb r s=true):bE l=r:=by
 have G:l≠[]:=λe=>by rw [e]at h;cases h
 obtain⟨J,V⟩:=cz G;exact zP _ _ (V r h) (H _ J)
theorem nN {l m:List Tx}(h:∀s,s∈l↔s∈m):bE l=bE m:=by
 by_cases H:l=[]
 ·subst H;have:m=[]:=OD.2 λs G=>by have :=(h s).2 G;cases this
  rw [this]
 ·have hm:m≠[]:=λe=>H (OD.2 λs G=>by have :=(h s).1 G;rw [e]at this;cases this)
  obtain⟨J,V⟩:=cz hm;exact ga ((h _).2 J) λs G=>V s ((h s).1 G)
theorem HT (h:Tx)(s t:Tx):jb (h++s) (h++t)=jb s t:=by
 unfold jb
 congr 1
 induction h with
 | nil=>rfl
 | cons a h G=>simp only [Ns,List.cons_le_cons_iff,Pn,Ox,PU,G]
theorem rO (h:Tx){l:List Tx}(G:l≠[]):bE (l.map (h++·))=h++bE l:=by
 obtain⟨H,J⟩:=cz G;refine ga (N3 H) λs V=>?_
 obtain⟨t,W,rfl⟩:=Nb.1 V;rw [HT];exact J t W
def ins {α:Type}(x:α):List α->List (List α)
 | []=>[[x]]
 | y::l=>(x::y::l)::(ins x l).map (y::·)
def perms {α:Type}:List α->List (List α)
 | []=>[[]]
 | x::l=>(perms l).flatMap (ins x)
theorem rb {α:Type}(x:α):∀(l m:List α),m∈ins x l↔∃s t,l=s++t/\m=s++x::t
 | [],m=>by
  simp only [ins,MA];constructor
  ·rintro rfl;exact⟨[],[],rfl,rfl⟩
  ·rintro⟨s,t,e,rfl⟩
   obtain⟨rfl,rfl⟩:=List.append_eq_nil_iff.1 e.symm;rfl
 | y::l,m=>by
  simp only [ins,MH,Nb];constructor
  ·rintro(rfl | ⟨m',hm,rfl⟩)
   ·exact⟨[],y::l,rfl,rfl⟩
   ·obtain⟨s,t,rfl,rfl⟩:=(rb x l m').1 hm;exact⟨y::s,t,rfl,rfl⟩
  ·rintro⟨s,t,e,rfl⟩
   cases s with
   | nil=>simp only [Nk]at e;subst e;exact .inl rfl
   | cons z s=>
    simp only [Ns,Nj]at e;obtain⟨rfl,rfl⟩:=e;exact .inr ⟨s++x::t,(rb x _ _).2 ⟨s,t,rfl,rfl⟩,rfl⟩
theorem cP {α:Type}:∀(l m:List α),m∈perms l↔m.Perm l
 | [],m=>by simp [perms]
 | x::l,m=>by
  simp only [perms,Ni];constructor
  ·rintro⟨m',G,H⟩
   obtain⟨s,t,rfl,rfl⟩:=(rb x m' m).1 H;exact Pd.trans (List.Perm.cons x ((cP l _).1 G))
  ·intro h;obtain⟨s,t,rfl⟩:=List.append_of_mem (h.symm.subset (Nc ..));exact⟨s++t,(cP l _).2 ((PK x).1 (Pd.symm.trans h)),(rb x _ _).2 ⟨s,t,rfl,rfl⟩⟩
theorem oe {α:Type}(l:List α):perms l≠[]:=λe=>by
 have :=(cP l l).2 (NA l);rw [e]at this;cases this
def qX:List UInt8:=(List.range 26).map λi=>UInt8.ofNat (97+i)
abbrev Tk:=UInt8->Bool
def uj (tk:Tk):Option UInt8:=qX.find? λc=> !tk c
def ic (tk:Tk):UInt8:=(uj tk).getD 122
def cu (tk:Tk)(c:UInt8):Tk:=λd=>tk d||d==c
def lets:Nat->Tk->List UInt8
 | 0,_=>[]
 | n+1,tk=>ic tk::lets n (cu tk (ic tk))
def addK:List UInt8->Tk->Tk
 | [],tk=>tk
 | c::l,tk=>addK l (cu tk c)
def fL:Nat->Tk->Bool
 | 0,_=>false
 | n+1,tk=>(uj tk).isNone||fL n (cu tk (ic tk))
abbrev Rh:=Nat->UInt8
def asg:List Nat->List UInt8->Rh->Rh
 | x::π,c::l,ρ=>asg π l (aI ρ x c)
 | _,_,ρ=>ρ
def wrap:List UInt8->Tx->Tx
 | [],s=>s
 | c::l,s=>35::c::46::wrap l s
theorem yB (l:List UInt8)(s:Tx):wrap l s=wrap l []++s:=by
 induction l with
 | nil=>rfl
 | cons c l G=>rw [wrap,G,wrap];rfl
theorem fw:∀(n:Nat) (tk:Tk),(lets n tk).length=n
 | 0,_=>rfl
 | n+1,tk=>by rw [lets,Mm,fw]
def aR (own:List Nat)(f:Rh->Tk->List Tx)(ρ:Rh)(tk:Tk):Tx:=
 if(f ρ tk).isEmpty then [48]else
 let ls:=lets own.length tk
 wrap ls (bE ((perms own).map λπ=>joinS 38 (aH (f (asg π ls ρ) (addK ls tk)))))
def kText (k:K)(a b:UInt8)(rest:Tx):Tx:=match k with
 | .s=>a::33::b::46::rest
 | .r=>a::63::b::46::rest
 | .t=>126::46::rest
 | .m=>91::(if b< a then b else a)::61::(if b< a then a else b)::93::rest
 | .p=>42::rest
def thS:Lv->Rh->Tk->List Tx
 | .nil,_,_=>[]
 | .thr k a b o r n,ρ,tk=>(match k with
   | .r=>kText .r (ρ a) (ic tk) (aR o (thS r) (aI ρ b (ic tk)) (cu tk (ic tk)))
   | k=>kText k (ρ a) (ρ b) (aR o (thS r) ρ tk))::thS n ρ tk
 | .sum ps n,ρ,tk=>joinS 43 (aH (thS ps ρ tk))::thS n ρ tk
 | .part o q n,ρ,tk=>aR o (thS q) ρ tk::thS n ρ tk
def fk (n:Nat)(nl:Bool)(f:Tk->Bool)(tk:Tk):Bool:= !nl&&(fL n tk||f (addK (lets n tk) tk))
def thBad:Lv->Tk->Bool
 | .nil,_=>false
 | .thr k _ _ o r n,tk=>(match k with
   | .r=>(uj tk).isNone||fk o.length r.isNil (thBad r) (cu tk (ic tk))
   | _=>fk o.length r.isNil (thBad r) tk)||thBad n tk
 | .sum ps n,tk=>thBad ps tk||thBad n tk
 | .part o q n,tk=>fk o.length q.isNil (thBad q) tk||thBad n tk
def thAll:Lv->Nat
 | .nil=>0
 | .thr _ _ _ o r n=>o.length+thAll r+thAll n
 | .sum ps n=>thAll ps+thAll n
 | .part o q n=>o.length+thAll q+thAll n
def an:Lv->Nat
 | .nil=>0
 | .thr _ _ _ o r n=>max (max o.length (an r)) (an n)
 | .sum ps n=>max (an ps) (an n)
 | .part o q n=>max (max o.length (an q)) (an n)
theorem bn:∀(l:Lv) (ρ:Rh) (tk:Tk),(thS l ρ tk).length=l.len
 | .nil,_,_=>rfl
 | .thr k a b o r n,ρ,tk=>by simp only [thS,Mm,bn n,Lv.len]
 | .sum ps n,ρ,tk=>by rw [thS,Mm,bn n,Lv.len]
 | .part o q n,ρ,tk=>by rw [thS,Mm,bn n,Lv.len]
theorem fU:∀(l m:Lv) (ρ:Rh) (tk:Tk),thS (l.app m) ρ tk=thS l ρ tk++thS m ρ tk
 | .nil,_,_,_=>rfl
 | .thr k a b o r n,m,ρ,tk=>by simp only [Lv.app,thS,fU n m,Ns]
 | .sum ps n,m,ρ,tk=>by simp only [Lv.app,thS,fU n m,Ns]
 | .part o q n,m,ρ,tk=>by simp only [Lv.app,thS,fU n m,Ns]
theorem cM:∀(l m:Lv) (tk:Tk),thBad (l.app m) tk=(thBad l tk||thBad m tk)
 | .nil,_,_=>by simp [Lv.app,thBad]
 | .thr k a b o r n,m,tk=>by simp only [Lv.app,thBad,cM n m,NZ]
 | .sum ps n,m,tk=>by simp only [Lv.app,thBad,cM n m,NZ]
 | .part o q n,m,tk=>by simp only [Lv.app,thBad,cM n m,NZ]
theorem bT:∀(l m:Lv),thAll (l.app m)=thAll l+thAll m
 | .nil,_=>by simp [Lv.app,thAll]
 | .thr k a b o r n,m=>by simp only [Lv.app,thAll,bT n m];omega
 | .sum ps n,m=>by simp only [Lv.app,thAll,bT n m];omega
 | .part o q n,m=>by simp only [Lv.app,thAll,bT n m];omega
theorem bY:∀(l m:Lv),an (l.app m)=max (an l) (an m)
 | .nil,_=>by simp [Lv.app,an]
 | .thr k a b o r n,m=>by simp only [Lv.app,an,bY n m];omega
 | .sum ps n,m=>by simp only [Lv.app,an,bY n m];omega
 | .part o q n,m=>by simp only [Lv.app,an,bY n m];omega
theorem lf {own G:List Nat}{f g:Rh->Tk->List Tx}(h:own.Perm G)(J:∀ρ tk,(f ρ tk).Perm (g ρ tk))(ρ:Rh)(tk:Tk):aR own f ρ tk=aR G g ρ tk:=by
 unfold aR;have e:(f ρ tk).isEmpty=(g ρ tk).isEmpty:=by
  rw [Nt,PC,PC];exact⟨λe=>by have :=J ρ tk;rw [e]at this;exact this.symm.eq_nil,λe=>by have :=J ρ tk;rw [e]at this;exact this.eq_nil⟩
 rw [e,h.length_eq];split
 ·rfl
 ·show wrap _ (bE _)=wrap _ (bE _)
  congr 1
  refine nN λs=>?_
  simp only [Nb,cP];constructor
  ·rintro⟨π,H,rfl⟩
   exact⟨π,H.trans h,by rw [fu (J _ _)]⟩
  ·rintro⟨π,H,rfl⟩
   exact⟨π,H.trans h.symm,by rw [fu (J _ _)]⟩
def LS (u:U):Rh->Tk->Tx:=aR (td u).1 (thS (td u).2)
def de (u:U):Tk->Bool:=fk (td u).1.length (td u).2.isNil (thBad (td u).2)
def cB (u:U):Nat:=(td u).1.length+thAll (td u).2
def a7 (u:U):Nat:=max (td u).1.length (an (td u).2)
def HP:U->Bool
 | .snd .. =>true | .rcv .. =>true | .tau .. =>true | .mat .. =>true | .rep .. =>true | .sum .. =>true | _=>false
theorem xG:∀(u:U),∀t∈(aj u).2,HP t=true:=by
 intro u
 induction u with
 | nil=>intro t h;simp [aj]at h
 | snd a b p G=>intro t h;simp [aj]at h;subst h;rfl
 | rcv a b p G=>intro t h;simp [aj]at h;subst h;rfl
 | tau p G=>intro t h;simp [aj]at h;subst h;rfl
 | sum p q G H=>
  intro t h;simp only [aj]at h;split at h
  ·exact H t h
  ·split at h
   ·exact G t h
   ·simp at h;subst h;rfl
 | par p q G H=>intro t h;simp only [aj,My]at h;exact h.elim (G t) (H t)
 | res x p G=>exact G
 | mat a b p G=>
  intro t h;simp only [aj]at h;split at h
  ·exact G t h
  ·split at h
   ·simp at h
   ·simp at h;subst h;rfl
 | rep p G=>
  intro t h;simp only [aj]at h;split at h
  ·simp at h
  ·simp at h;subst h;rfl
def thU:U->Rh->Tk->Tx
 | .snd a b p,ρ,tk=>kText .s (ρ a) (ρ b) (LS p ρ tk)
 | .rcv a x p,ρ,tk=>kText .r (ρ a) (ic tk) (LS p (aI ρ x (ic tk)) (cu tk (ic tk)))
 | .tau p,ρ,tk=>kText .t 0 0 (LS p ρ tk)
 | .mat a b p,ρ,tk=>kText .m (ρ a) (ρ b) (LS p ρ tk)
 | .rep p,ρ,tk=>kText .p 0 0 (LS p ρ tk)
 | .sum p q,ρ,tk=>joinS 43 (aH ((ak p++ak q).map λu=>LS u ρ tk))
 | _,_,_=>[]
theorem Ge:∀(l:List U) (ρ:Rh) (tk:Tk),thS (tp l) ρ tk=l.map λu=>LS u ρ tk
 | [],_,_=>rfl
 | u::l,ρ,tk=>by rw [tp,thS,Ge l];rfl
theorem EF:∀(l:List U),(∀t∈l,HP t=true)->∀(ρ:Rh) (tk:Tk),thS (tl l) ρ tk=l.map λu=>thU u ρ tk
 | [],_,_,_=>rfl
 | u::l,h,ρ,tk=>by
  have G:=EF l (λt H=>h t (MD _ H)) ρ tk;have hu:=h u (Nc ..);cases u<;>first | (cases hu;done) | (simp only [tl,thS,G,MV,Ge];rfl)
theorem xu {u:U}(h:Uq u)(ρ:Rh)(tk:Tk):LS u ρ tk=aR (aj u).1 (λρ tk=>(aj u).2.map λt=>thU t ρ tk) ρ tk:=by
 obtain⟨G,H,_⟩:=fJ u h;refine lf H (λρ tk=>?_) ρ tk;rw [G,EF _ (xG u)]
def nm (c:UInt8):Bool:=(97<=c&&c<=122)||(65<=c&&c<=90)||128<=c
def endI (l:Tx):Nat->Int->Int
 | 0,_=> -1
 | n+1,i=>
  if(l.length:Int)<=i then -1 else
  if bt l i.toNat=48 then i+1 else
  if bt l i.toNat=42 then endI l n (i+1)else
  if bt l i.toNat=126 then(if i+1< l.length/\bt l (i+1).toNat=46 then endI l n (i+2)else -1)else
  if bt l i.toNat=35 then(if i+2< l.length/\nm (bt l (i+1).toNat)=true/\bt l (i+2).toNat=46 then endI l n (i+3)else -1)else
  if bt l i.toNat=91 then(if i+4< l.length/\nm (bt l (i+1).toNat)=true/\bt l (i+2).toNat=61/\nm (bt l (i+3).toNat)=true/\bt l (i+4).toNat=93 then endI l n (i+5)else -1)else
  if bt l i.toNat=40 then
   (if endI l n (i+1)< 0\/(l.length:Int)<=endI l n (i+1)\/(bt l (endI l n (i+1)).toNat≠43/\bt l (endI l n (i+1)).toNat≠38)then -1 else
    if 0<=endI l n (endI l n (i+1)+1)/\endI l n (endI l n (i+1)+1)< l.length/\bt l (endI l n (endI l n (i+1)+1)).toNat=41 then endI l n (endI l n (i+1)+1)+1 else -1)else
  if nm (bt l i.toNat)=true then(if i+3< l.length/\(bt l (i+1).toNat=33\/bt l (i+1).toNat=63)/\nm (bt l (i+2).toNat)=true/\bt l (i+3).toNat=46 then endI l n (i+4)else -1)else -1
theorem Cm (l:Tx):∀n i,0<=i->endI l n i= -1\/i< endI l n i/\endI l n i<=l.length:=by
 intro n;induction n with
 | zero=>intro i _;exact .inl rfl
 | succ n G=>
  intro i hi;have H:=G (i+1) (by omega);have J:=G (i+2) (by omega);have V:=G (i+3) (by omega);have h4:=G (i+4) (by omega);have h5:=G (i+5) (by omega);have W:=G (endI l n (i+1)+1);unfold endI
  repeat' split
  all_goals omega
def lt (c:UInt8):Bool:=97<=c&&c<=122
abbrev P:=T UInt8
def T.wf:P->Bool
 | .nil=>true | .snd a b p=>nm a&&nm b&&p.wf | .rcv a b p=>nm a&&nm b&&p.wf | .tau p=>p.wf | .sum p q=>p.wf&&q.wf
 | .par p q=>p.wf&&q.wf | .res x p=>nm x&&p.wf | .mat a b p=>nm a&&nm b&&p.wf | .rep p=>p.wf
def T.kind:P->UInt8
 | .nil=>48 | .snd .. =>33 | .rcv .. =>63 | .tau _=>126 | .sum .. =>43 | .par .. =>38 | .res .. =>35 | .mat .. =>61 | .rep _=>42
def T.parts:P->List P
 | .nil=>[] | .snd _ _ p=>[p] | .rcv _ _ p=>[p] | .tau p=>[p] | .sum p q=>[p,q] | .par p q=>[p,q] | .res _ p=>[p] | .mat _ _ p=>[p] | .rep p=>[p]
theorem Fu (t:P):0< t.text.length:=by cases t<;>simp [T.text]
theorem bj:∀t:P,t.size<=t.text.length
 | .nil=>by simp [T.size,T.text]
 | .snd a b p=>by have :=bj p;simp only [T.size,T.text,Mm];omega
 | .rcv a b p=>by have :=bj p;simp only [T.size,T.text,Mm];omega
 | .tau p=>by have :=bj p;simp only [T.size,T.text,Mm];omega
 | .res a p=>by have :=bj p;simp only [T.size,T.text,Mm];omega
 | .mat a b p=>by have :=bj p;simp only [T.size,T.text,Mm];omega
 | .rep p=>by have :=bj p;simp only [T.size,T.text,Mm];omega
 | .sum p q=>by have :=bj p;have :=bj q;simp only [T.size,T.text,Mm,Mt,MB];omega
 | .par p q=>by have :=bj p;have :=bj q;simp only [T.size,T.text,Mm,Mt,MB];omega
theorem drop_cons {l:Tx}{i:Nat}{c:UInt8}{r:Tx}(h:l.drop i=c::r):i< l.length/\bt l i=c/\l.drop (i+1)=r:=by
 have hi:i< l.length:=by
  rcases N2 i l.length with G | G
  ·exact G
  ·rw [N7 G]at h;cases h
 have e:=Nn hi;rw [h]at e;simp only [Nj]at e;refine⟨hi,?_,e.2.symm⟩;rw [e.1];simp [bt,hi]
theorem bB {l:Tx}{i:Nat}(h:i< l.length):l.drop i=bt l i::l.drop (i+1):=by
 rw [Nn h];simp [bt,h]
theorem r8 {c:UInt8}(h:nm c=true):c≠48/\c≠42/\c≠126/\c≠35/\c≠91/\c≠40:=by
 refine⟨?_,?_,?_,?_,?_,?_⟩<;>rintro rfl<;>revert h<;>decide
theorem vz {l:Tx}:∀(t:P) (n i:Nat) (r:Tx),t.wf=true->t.size<=n->l.drop i=t.text++r->endI l n i=((i+t.text.length:Nat):Int):=by
 intro t
 induction t with
 | nil=>
  intro n i r hw H h;obtain⟨n,rfl⟩:∃m,n=m+1:=⟨n - 1,by simp only [T.size]at H;omega⟩
  obtain⟨h1,G,_⟩:=drop_cons h;unfold endI;rw [MJ (by omega),Mv,MZ G];simp [T.text]
 | rep p V=>
  intro n i r hw H h;simp only [T.size]at H;obtain⟨n,rfl⟩:∃m,n=m+1:=⟨n - 1,by omega⟩
  obtain⟨h1,G,J⟩:=drop_cons h;unfold endI;rw [MJ (by omega),Mv,MJ (by rw [G];decide),MZ G];have :=V n (i+1) r hw (by omega) J;rw [Int.natCast_add]at this;simp only [Int.natCast_one]at this;rw [this];simp only [T.text,Mm];omega
 | tau p V=>
  intro n i r hw H h;simp only [T.size]at H;obtain⟨n,rfl⟩:∃m,n=m+1:=⟨n - 1,by omega⟩
  obtain⟨h1,G,J⟩:=drop_cons h;obtain⟨k1,k2,W⟩:=drop_cons J;have e1:((i:Int)+1).toNat=i+1:=by omega
  have :=V n (i+2) r hw (by omega) W;have e2:(i:Int)+2=((i+2:Nat):Int):=by omega
  unfold endI;rw [MJ (by omega),Mv,e1,e2,G,k2,this];rw [MJ (by decide),MJ (by decide),MZ rfl,MZ ⟨by omega,rfl⟩];simp only [T.text,Mm];omega
 | res x p V=>
  intro n i r hw H h;simp only [T.size]at H;simp only [T.wf,Mp]at hw;obtain⟨n,rfl⟩:∃m,n=m+1:=⟨n - 1,by omega⟩
  obtain⟨h1,G,J⟩:=drop_cons h;obtain⟨k1,k2,W⟩:=drop_cons J;obtain⟨m1,m2,m3⟩:=drop_cons W;have e1:((i:Int)+1).toNat=i+1:=by omega
  have Z:((i:Int)+2).toNat=i+1+1:=by omega
  have :=V n (i+3) r hw.2 (by omega) m3;have e2:(i:Int)+3=((i+3:Nat):Int):=by omega
  unfold endI;rw [MJ (by omega),Mv,e1,Z,e2,G,k2,m2,this];rw [MJ (by decide),MJ (by decide),MJ (by decide),MZ rfl,MZ ⟨by omega,hw.1,rfl⟩];simp only [T.text,Mm];omega
 | mat a b p V=>
  intro n i r hw H h;simp only [T.size]at H;simp only [T.wf,Mp]at hw;obtain⟨n,rfl⟩:∃m,n=m+1:=⟨n - 1,by omega⟩
  obtain⟨h1,G,J⟩:=drop_cons h;obtain⟨k1,k2,W⟩:=drop_cons J;obtain⟨m1,m2,m3⟩:=drop_cons W;obtain⟨o1,o2,o3⟩:=drop_cons m3;obtain⟨q1,q2,q3⟩:=drop_cons o3;have e1:((i:Int)+1).toNat=i+1:=by omega
  have Z:((i:Int)+2).toNat=i+1+1:=by omega
  have e3:((i:Int)+3).toNat=i+1+1+1:=by omega
  have e4:((i:Int)+4).toNat=i+1+1+1+1:=by omega
  have :=V n (i+5) r hw.2 (by omega) q3;have e2:(i:Int)+5=((i+5:Nat):Int):=by omega
  unfold endI;rw [MJ (by omega),Mv,e1,Z,e2,e3,e4,G,k2,m2,o2,q2,this];rw [MJ (by decide),MJ (by decide),MJ (by decide),MJ (by decide),MZ rfl,MZ ⟨by omega,hw.1.1,rfl,hw.1.2,rfl⟩];simp only [T.text,Mm];omega
 | snd a b p V=>
  intro n i r hw H h;simp only [T.size]at H;simp only [T.wf,Mp]at hw;obtain⟨n,rfl⟩:∃m,n=m+1:=⟨n - 1,by omega⟩
  obtain⟨h1,G,J⟩:=drop_cons h;obtain⟨k1,k2,W⟩:=drop_cons J;obtain⟨m1,m2,m3⟩:=drop_cons W;obtain⟨o1,o2,o3⟩:=drop_cons m3;have e1:((i:Int)+1).toNat=i+1:=by omega
  have Z:((i:Int)+2).toNat=i+1+1:=by omega
  have e3:((i:Int)+3).toNat=i+1+1+1:=by omega
  have :=V n (i+4) r hw.2 (by omega) o3;have e2:(i:Int)+4=((i+4:Nat):Int):=by omega
  obtain⟨n1,n2,n3,n4,n5,n6⟩:=r8 hw.1.1;unfold endI;rw [MJ (by omega),Mv,e1,Z,e2,e3,G,k2,m2,o2,this];rw [MJ n1,MJ n2,MJ n3,MJ n4,MJ n5,MJ n6,MZ hw.1.1,MZ ⟨by omega,.inl rfl,hw.1.2,rfl⟩];simp only [T.text,Mm];omega
 | rcv a b p V=>
  intro n i r hw H h;simp only [T.size]at H;simp only [T.wf,Mp]at hw;obtain⟨n,rfl⟩:∃m,n=m+1:=⟨n - 1,by omega⟩
  obtain⟨h1,G,J⟩:=drop_cons h;obtain⟨k1,k2,W⟩:=drop_cons J;obtain⟨m1,m2,m3⟩:=drop_cons W;obtain⟨o1,o2,o3⟩:=drop_cons m3;have e1:((i:Int)+1).toNat=i+1:=by omega
  have Z:((i:Int)+2).toNat=i+1+1:=by omega
  have e3:((i:Int)+3).toNat=i+1+1+1:=by omega
  have :=V n (i+4) r hw.2 (by omega) o3;have e2:(i:Int)+4=((i+4:Nat):Int):=by omega
  obtain⟨n1,n2,n3,n4,n5,n6⟩:=r8 hw.1.1;unfold endI;rw [MJ (by omega),Mv,e1,Z,e2,e3,G,k2,m2,o2,this];rw [MJ n1,MJ n2,MJ n3,MJ n4,MJ n5,MJ n6,MZ hw.1.1,MZ ⟨by omega,.inr rfl,hw.1.2,rfl⟩];simp only [T.text,Mm];omega
 | sum p q V α=>
  intro n i r hw H h;simp only [T.size]at H;simp only [T.wf,Mp]at hw;obtain⟨n,rfl⟩:∃m,n=m+1:=⟨n - 1,by omega⟩
  have h:l.drop i=40::(p.text++43::(q.text++41::r)):=by rw [h];simp [T.text]
  obtain⟨h1,G,J⟩:=drop_cons h;have e:=V n (i+1) _ hw.1 (by omega) J;have h4:l.drop (i+1+p.text.length)=43::(q.text++41::r):=by
   rw [<-Pe,J,Pv]
  obtain⟨k1,k2,W⟩:=drop_cons h4;have e':=α n (i+1+p.text.length+1) _ hw.2 (by omega) W;have h5:l.drop (i+1+p.text.length+1+q.text.length)=41::r:=by
   rw [<-Pe,W,Pv]
  obtain⟨m1,m2,m3⟩:=drop_cons h5;have c1:(i:Int)+1=((i+1:Nat):Int):=by omega
  have c2:((i+1+p.text.length:Nat):Int)+1=((i+1+p.text.length+1:Nat):Int):=by omega
  unfold endI;rw [MJ (by omega)];simp only [Mv,G,c1,e,c2,e',k2,m2];rw [MJ (by decide),MJ (by decide),MJ (by decide),MJ (by decide),MJ (by decide),MZ trivial,MJ,MZ ⟨by omega,by omega,trivial⟩]
  ·simp only [T.text,Mm,Mt,MB];omega
  ·rintro(hh | hh | hh)
   ·omega
   ·omega
   ·exact hh.1 rfl
 | par p q V α=>
  intro n i r hw H h;simp only [T.size]at H;simp only [T.wf,Mp]at hw;obtain⟨n,rfl⟩:∃m,n=m+1:=⟨n - 1,by omega⟩
  have h:l.drop i=40::(p.text++38::(q.text++41::r)):=by rw [h];simp [T.text]
  obtain⟨h1,G,J⟩:=drop_cons h;have e:=V n (i+1) _ hw.1 (by omega) J;have h4:l.drop (i+1+p.text.length)=38::(q.text++41::r):=by
   rw [<-Pe,J,Pv]
  obtain⟨k1,k2,W⟩:=drop_cons h4;have e':=α n (i+1+p.text.length+1) _ hw.2 (by omega) W;have h5:l.drop (i+1+p.text.length+1+q.text.length)=41::r:=by
   rw [<-Pe,W,Pv]
  obtain⟨m1,m2,m3⟩:=drop_cons h5;have c1:(i:Int)+1=((i+1:Nat):Int):=by omega
  have c2:((i+1+p.text.length:Nat):Int)+1=((i+1+p.text.length+1:Nat):Int):=by omega
  unfold endI;rw [MJ (by omega)];simp only [Mv,G,c1,e,c2,e',k2,m2];rw [MJ (by decide),MJ (by decide),MJ (by decide),MJ (by decide),MJ (by decide),MZ trivial,MJ,MZ ⟨by omega,by omega,trivial⟩]
  ·simp only [T.text,Mm,Mt,MB];omega
  ·rintro(hh | hh | hh)
   ·omega
   ·omega
   ·exact hh.2 rfl
theorem AX {l:Tx}:∀(n i:Nat),0<=endI l n i->∃t:P,t.wf=true/\l.drop i=t.text++l.drop (endI l n i).toNat:=by
 intro n
 induction n with
 | zero=>intro i h;simp [endI]at h
 | succ n Z=>
  intro i h;have μ:∀i:Nat,0<=endI l n i->∃t:P,t.wf=true/\l.drop i=t.text++l.drop (endI l n i).toNat:=Z;have c1:(i:Int)+1=((i+1:Nat):Int):=by omega
  have c2:(i:Int)+2=((i+2:Nat):Int):=by omega
  have c3:(i:Int)+3=((i+3:Nat):Int):=by omega
  have c4:(i:Int)+4=((i+4:Nat):Int):=by omega
  have c5:(i:Int)+5=((i+5:Nat):Int):=by omega
  unfold endI at h|-;simp only [c1,c2,c3,c4,c5,Mv]at h|-;split at h
  ·omega
  rename_i hi;have hl:i< l.length:=by omega
  rw [MJ hi];rw [bB hl];split at h
  ·rename_i G;rw [MZ G];exact⟨.nil,rfl,by rw [G];rfl⟩
  rename_i β;rw [MJ β];split at h
  ·rename_i G;obtain⟨t,hw,J⟩:=Z _ h;rw [MZ G];exact⟨.rep t,hw,by rw [G,J];rfl⟩
  rename_i γ;rw [MJ γ];split at h
  ·rename_i G;rw [MZ G];split at h
   ·rename_i H;obtain⟨t,hw,J⟩:=Z _ h;rw [MZ H];have V:i+1< l.length:=by omega
    exact⟨.tau t,hw,by rw [G,bB V,H.2,J];rfl⟩
   ·omega
  rename_i δ;rw [MJ δ];split at h
  ·rename_i G;rw [MZ G];split at h
   ·rename_i H;obtain⟨t,hw,J⟩:=Z _ h;rw [MZ H];have V:i+1< l.length:=by omega
    have W:i+1+1< l.length:=by omega
    exact⟨.res (bt l (i+1)) t,by simp [T.wf,hw,H.2.1],by rw [G,bB V,bB W,H.2.2,J];rfl⟩
   ·omega
  rename_i ε;rw [MJ ε];split at h
  ·rename_i G;rw [MZ G];split at h
   ·rename_i H;obtain⟨t,hw,J⟩:=Z _ h;rw [MZ H];have V:i+1< l.length:=by omega
    have W:i+1+1< l.length:=by omega
    have h3:i+1+1+1< l.length:=by omega
    have h4:i+1+1+1+1< l.length:=by omega
    exact⟨.mat (bt l (i+1)) (bt l (i+3)) t,by simp [T.wf,hw,H.2.1,H.2.2.2.1],by
     rw [G,bB V,bB W,bB h3,bB h4,H.2.2.1,H.2.2.2.2,J];rfl⟩
   ·omega
  rename_i ζ;rw [MJ ζ];split at h
  ·rename_i G;rw [MZ G];split at h
   ·omega
   ·rename_i hm;rw [MJ hm];have η:0<=endI l n ((i+1:Nat):Int):=by omega
    obtain⟨t,hw,J⟩:=Z _ η;generalize hM:(endI l n ((i+1:Nat):Int)).toNat=m at*;have θ:endI l n ((i+1:Nat):Int)=(m:Int):=by omega
    simp only [θ]at h hm|-;have cm:(m:Int)+1=((m+1:Nat):Int):=by omega
    simp only [cm]at h|-;split at h
    ·rename_i he;rw [MZ he];obtain⟨u,α,hu⟩:=Z _ he.1;have V:m< l.length:=by omega
     generalize hE:(endI l n ((m+1:Nat):Int)).toNat=e at*;have ι:endI l n ((m+1:Nat):Int)=(e:Int):=by omega
     simp only [ι]at he|-;have W:e< l.length:=by omega
     have ce:(((e:Int)+1).toNat)=e+1:=by omega
     rw [ce];have hb:bt l m=43\/bt l m=38:=by
      by_cases hx:bt l m=43
      ·exact .inl hx
      ·by_cases hy:bt l m=38
       ·exact .inr hy
       ·exact absurd (.inr (.inr ⟨hx,hy⟩)) hm
     rcases hb with hb | hb
     ·exact⟨.sum t u,by simp [T.wf,hw,α],by rw [G,J,bB V,hb,hu,bB W,he.2.2];simp [T.text]⟩
     ·exact⟨.par t u,by simp [T.wf,hw,α],by rw [G,J,bB V,hb,hu,bB W,he.2.2];simp [T.text]⟩
    ·omega
  rename_i κ;rw [MJ κ];split at h
  ·rename_i G;rw [MZ G];split at h
   ·rename_i H;obtain⟨t,hw,J⟩:=Z _ h;rw [MZ H];have V:i+1< l.length:=by omega
    have W:i+1+1< l.length:=by omega
    have h3:i+1+1+1< l.length:=by omega
    rcases H.2.1 with hb | hb
    ·exact⟨.snd (bt l i) (bt l (i+2)) t,by simp [T.wf,hw,H.2.2.1,G],by rw [bB V,bB W,bB h3,hb,H.2.2.2,J];rfl⟩
    ·exact⟨.rcv (bt l i) (bt l (i+2)) t,by simp [T.wf,hw,H.2.2.1,G],by rw [bB V,bB W,bB h3,hb,H.2.2.2,J];rfl⟩
   ·omega
  ·omega
theorem kv:∀{t u:P} {r r':Tx},t.wf=true->u.wf=true->t.text++r=u.text++r'->t=u/\r=r':=by
 intro t
 induction t<;>intro u r r' H hu h<;>cases u<;>
  simp only [T.text,T.wf,Ns,M8,Nk,Nj,Mp]at h H hu
 case nil.nil=>exact⟨rfl,h.2⟩
 case snd.snd G _ _ _=>
  obtain⟨rfl,_,rfl,_,h⟩:=h;obtain⟨rfl,k⟩:=G H.2 hu.2 h;exact⟨rfl,k⟩
 case rcv.rcv G _ _ _=>
  obtain⟨rfl,_,rfl,_,h⟩:=h;obtain⟨rfl,k⟩:=G H.2 hu.2 h;exact⟨rfl,k⟩
 case mat.mat G _ _ _=>
  obtain⟨_,rfl,_,rfl,_,h⟩:=h;obtain⟨rfl,k⟩:=G H.2 hu.2 h;exact⟨rfl,k⟩
 case res.res G _ _=>
  obtain⟨_,rfl,_,h⟩:=h;obtain⟨rfl,k⟩:=G H.2 hu.2 h;exact⟨rfl,k⟩
 case tau.tau G _=>
  obtain⟨rfl,k⟩:=G H hu h.2.2;exact⟨rfl,k⟩
 case rep.rep G _=>
  obtain⟨rfl,k⟩:=G H hu h.2;exact⟨rfl,k⟩
 case sum.sum G J _ _=>
  obtain⟨rfl,k⟩:=G H.1 hu.1 h.2;obtain⟨rfl,m⟩:=J H.2 hu.2 (Ny k).2;exact⟨rfl,(Ny m).2⟩
 case par.par G J _ _=>
  obtain⟨rfl,k⟩:=G H.1 hu.1 h.2;obtain⟨rfl,m⟩:=J H.2 hu.2 (Ny k).2;exact⟨rfl,(Ny m).2⟩
 case sum.par G J _ _=>
  obtain⟨rfl,k⟩:=G H.1 hu.1 h.2;exact absurd (Ny k).1 (by decide)
 case par.sum G J _ _=>
  obtain⟨rfl,k⟩:=G H.1 hu.1 h.2;exact absurd (Ny k).1 (by decide)
 all_goals
  exfalso
  first
   | exact absurd h.1 (by decide)
   | exact absurd h.2.1 (by decide)
   | (have V:=r8 hu.1.1;rw [<-h.1]at V;simp at V;done)
   | (have V:=r8 H.1.1;rw [h.1]at V;simp at V;done)
theorem eZ {t u:P}(G:t.wf=true)(hu:u.wf=true)(h:t.text=u.text):t=u:=
 (kv G hu (r:=[]) (r':=[]) (by rw [h])).1
end Go.Proofs.YtdecokaadekjnaaGreat
namespace Go.Proofs.YtdecokaadekjnaaGreat
open Go Go.RowKit
def Ex (w w':World):Prop:=Below w.heap.size w w'
theorem Ex.refl (w:World):Ex w w:=Pg _ _
theorem Ex.trans {a b c:World}(h:Ex a b)(k:Ex b c):Ex a c:=Ob h (Pw k h.size)
theorem Ex.drew (w:World):Ex w w.drew:=Below.drew (Pg _ _)
theorem Ex.alloc (w:World)(o:Obj):Ex w (w.alloc o):=Below.alloc (Pg _ _) (Mu _) o
theorem Ex.cell {w w':World}(h:Ex w w'){a:Addr}(ha:a.block< w.heap.size):w'.cell? a=w.cell? a:=Below.cell h ha
theorem Fe {c:UInt8}{w:World}{R:Bool->PV}(h:R (nm c) w):PW 161 #[.int .u8 c.toNat] w (aw [.b] R):=by
 refine tE c w R ?_;dsimp only [go_sem];dsimp only [go_sem,UInt8.reduceOfNat,UInt32.reduceOfNat,Nat.reduceAdd];have e:nm c=true\/nm c=false:=by cases nm c<;>simp
 unfold nm at*
 grind
theorem nP (p:Tx)(hp:p.length<=4611686018427387904):∀(n:Nat) (i:Int),0<=i->(p.length:Int) - i< n->i<=p.length+1->∀{w:World} {R:Int->PV},R (endI p n i) w->
  PW 110 #[.string (ax p),.int .i64 i] w (aw [.i] R):=by
 intro n
 induction n with
 | zero=>
  intro i H J V w R h;refine mI p i w R ?_;dsimp only [go_sem];dsimp only [go_sem,UInt8.reduceOfNat,UInt32.reduceOfNat,Nat.reduceAdd];exact⟨λ _=>h,λW=>by simp at W;omega⟩
 | succ n Z=>
  intro i H J V w R h;refine mI p i w R ?_;dsimp only [go_sem];dsimp only [go_sem,UInt8.reduceOfNat,UInt32.reduceOfNat,Nat.reduceAdd];have α:=Cm p n (i+1) (by omega);have G:=Cm p n (endI p n (i+1)+1);unfold endI at h;unfold bJ
  repeat' first
   | refine Fe ?_
   | refine Z _ ?_ ?_ ?_ ?_
   | refine And.intro ?_ ?_
   | intro _
  all_goals grind
structure Ok (t:P):Prop where
 wf:t.wf=true
 len:t.text.length<=1099511627776
def Strs (w:World)(v:Value)(l:List Tx):Prop:=
 (v= .slice none 0 0/\l=[])\/∃b off cap,v= .slice (some ⟨b,off,none⟩) l.length cap/\b< w.heap.size/\∀i x,l[i]?=some x->w.cell? ⟨b,off+i,none⟩=some (.string (ax x))
theorem Strs.ex {w w':World}{v:Value}{l:List Tx}(h:Strs w v l)(k:Ex w w'):Strs w' v l:=by
 rcases h with h | ⟨b,off,cap,H,G,J⟩
 ·exact .inl h
 ·exact .inr ⟨b,off,cap,H,MP G k.size,λi x V=>by rw [k.cell G];exact J i x V⟩
theorem Strs.slice {w:World}{v:Value}{l:List Tx}(h:Strs w v l):∃a cap,v= .slice a l.length cap:=by
 rcases h with⟨h,rfl⟩ | ⟨b,off,cap,G,_⟩
 ·exact⟨_,_,h⟩
 ·exact⟨_,_,G⟩
theorem Strs.at {w:World}{v:Value}{l:List Tx}(h:Strs w v l){i:Nat}(hi:i< l.length):
  ∃b off cap,v= .slice (some ⟨b,off,none⟩) l.length cap/\b< w.heap.size/\w.cell? ⟨b,off+i,none⟩=some (.string (ax l[i])):=by
 rcases h with⟨h,rfl⟩ | ⟨b,off,cap,G,H,J⟩
 ·simp at hi
 ·exact⟨b,off,cap,G,H,J i _ (Mo hi)⟩
theorem cN {p:Prop}{_:Decidable p}{A B:Prop}(h:p)(G:A):(decide p=true->A)/\(decide p=false->B):=⟨λ _=>G,λH=>absurd h (MO H)⟩
theorem aT {p:Prop}{_:Decidable p}{A B:Prop}(h:¬p)(hB:B):(decide p=true->A)/\(decide p=false->B):=⟨λG=>absurd (MN G) h,λ _=>hB⟩
theorem dE {p:Prop}{_:Decidable p}{A B:Prop}(h:p)(G:A):(decide p=false->B)/\(decide p=true->A):=⟨λH=>absurd h (MO H),λ _=>G⟩
theorem ck {p:Prop}{_:Decidable p}{A B:Prop}(h:¬p)(hB:B):(decide p=false->B)/\(decide p=true->A):=⟨λ _=>hB,λG=>absurd (MN G) h⟩
theorem aa {w:World}{c:Array Value}{el:Nat}{i:Nat}{v:Value}(h:c[i]?=some v):(w.alloc (.cells c el)).cell? ⟨w.heap.size,i,none⟩=some v:=by
 unfold World.cell? World.alloc;simp [h]
theorem size_alloc (w:World)(o:Obj):(w.alloc o).heap.size=w.heap.size+1:=by unfold World.alloc;simp
theorem oV (t:P)(hw:t.wf=true)(l:Tx)(i:Nat)(r:Tx)(h:l.drop i=t.text++r)(n:Nat)(H:(l.length:Int) - i< n):endI l n i=((i+t.text.length:Nat):Int):=by
 refine vz t n i r hw ?_ h;have J:=bj t;have G:=Nz List.length h;simp only [NX,Mt]at G;omega
theorem EK (l r:Tx)(i:Nat)(c:UInt8)(h:i=l.length):bt (l++c::r) i=c:=by
 subst h;simp [bt]
theorem aP {t:P}(ok:Ok t){w:World}{R:UInt8->PV}(h:R t.kind w):PW 120 #[.string (ax t.text)] w (aw [.c] R):=by
 refine sX _ w R ?_;dsimp only [go_sem];dsimp only [go_sem,UInt8.reduceOfNat,UInt32.reduceOfNat,Nat.reduceAdd];have hw:=ok.wf;have hl:=ok.len;cases t with
 | nil=>simpa [T.text,bt,T.kind]using h
 | rep p=>simpa [T.text,bt,T.kind]using h
 | tau p=>simp [T.text,bt];exact⟨by omega,h⟩
 | res x p=>simp [T.text,bt];exact⟨by omega,h⟩
 | mat a b p=>simp [T.text,bt];exact⟨by omega,h⟩
 | snd a b p=>
  simp only [T.wf,Mp]at hw;obtain⟨n1,G,H,J,n5,V⟩:=r8 hw.1.1;simp [T.text,bt,n1,G,H,J,n5,V];exact⟨by omega,by omega,h⟩
 | rcv a b p=>
  simp only [T.wf,Mp]at hw;obtain⟨n1,G,H,J,n5,V⟩:=r8 hw.1.1;simp [T.text,bt,n1,G,H,J,n5,V];exact⟨by omega,by omega,h⟩
 | sum p q=>
  simp only [T.wf,Mp]at hw;have e:=oV p hw.1 (T.sum p q).text 1 (43::(q.text++[41])) rfl ((T.sum p q).text.length+1) (by omega);have W:bt (T.sum p q).text (1+p.text.length)=43:=EK (40::p.text) _ _ 43 (by simp;omega);have e3:1+p.text.length< (T.sum p q).text.length:=by simp only [T.text,Mm,Mt];omega
  have e0:bt (T.sum p q).text 0=40:=rfl;simp only [Int.toNat_zero,e0];refine⟨by omega,?_⟩
  repeat' first | refine aT (by decide) ?_ | refine cN (by decide) ?_ | refine ck (by decide) ?_ | refine dE (by decide) ?_
  refine nP _ (by omega) _ 1 (by omega) (by omega:((T.sum p q).text.length:Int) - 1< ((T.sum p q).text.length+1:Nat)) (by omega) ?_;have Z:endI (T.sum p q).text ((T.sum p q).text.length+1) 1=((1+p.text.length:Nat):Int):=e;rw [Z];refine⟨by omega,?_⟩;rw [Mv,W];exact h
 | par p q=>
  simp only [T.wf,Mp]at hw;have e:=oV p hw.1 (T.par p q).text 1 (38::(q.text++[41])) rfl ((T.par p q).text.length+1) (by omega);have W:bt (T.par p q).text (1+p.text.length)=38:=EK (40::p.text) _ _ 38 (by simp;omega);have e3:1+p.text.length< (T.par p q).text.length:=by simp only [T.text,Mm,Mt];omega
  have e0:bt (T.par p q).text 0=40:=rfl;simp only [Int.toNat_zero,e0];refine⟨by omega,?_⟩
  repeat' first | refine aT (by decide) ?_ | refine cN (by decide) ?_ | refine ck (by decide) ?_ | refine dE (by decide) ?_
  refine nP _ (by omega) _ 1 (by omega) (by omega:((T.par p q).text.length:Int) - 1< ((T.par p q).text.length+1:Nat)) (by omega) ?_;have Z:endI (T.par p q).text ((T.par p q).text.length+1) 1=((1+p.text.length:Nat):Int):=e;rw [Z];refine⟨by omega,?_⟩;rw [Mv,W];exact h
def T.hd:P->Nat
 | .nil=>4 | .snd .. =>4 | .rcv .. =>4 | .tau _=>2 | .sum .. =>1 | .par .. =>1 | .res .. =>3 | .mat .. =>5 | .rep _=>1
theorem cJ {t:P}(ok:Ok t){w:World}{R:Int->PV}(h:R (t.hd:Int) w):PW 165 #[.string (ax t.text)] w (aw [.i] R):=by
 refine tT _ w R ?_;dsimp only [go_sem];dsimp only [go_sem,UInt8.reduceOfNat,UInt32.reduceOfNat,Nat.reduceAdd];refine aP ok ?_;cases t<;>simpa [T.kind,T.hd]using h
theorem Ok.parts {t:P}(ok:Ok t):∀p∈t.parts,Ok p:=by
 have hw:=ok.wf;have G:=ok.len;cases t<;>simp only [T.parts,T.wf,T.text,Mp,MH,OW,Px,Mm,Mt]at hw G|-
 case nil=>intro p h;exact h.elim
 all_goals rintro _ (rfl | rfl)<;>(constructor<;>first | omega | simp_all)
theorem pI {t:P}(ok:Ok t){w:World}{R:Value->PV}(h:∀v w',Ex w w'->Strs w' v (t.parts.map T.text)->(∀g,v.ownBlock=some g->w.heap.size<=g)->R v w'):
  PW 117 #[.string (ax t.text)] w (aw [.v] R):=by
 refine qv _ w R ?_;dsimp only [go_sem];dsimp only [go_sem,UInt8.reduceOfNat,UInt32.reduceOfNat,Nat.reduceAdd];refine aP ok ?_;have hl:=ok.len;have hw:=ok.wf;have two:∀(w1:World) (x y:Tx) (w2:World),Ex w w1->w2=w1.alloc (.cells #[.string (ax x),.string (ax y)] 9)->Strs w2 (.slice (some ⟨w1.heap.size,0,none⟩) 2 2) [x,y]:=by
  rintro w1 x y w2 W rfl
  refine .inr ⟨_,0,2,rfl,by rw [size_alloc];omega,λi z V=>?_⟩;rw [MX];refine aa ?_
  match i,V with
  | 0,V=>simp at V|-;exact V▸rfl
  | 1,V=>simp at V|-;exact V▸rfl
  | i+2,V=>simp at V
 have one:∀(x:Tx) (w2:World),w2=w.alloc (.cells #[.string (ax x)] 9)->Strs w2 (.slice (some ⟨w.heap.size,0,none⟩) 1 1) [x]:=by
  rintro x w2 rfl
  refine .inr ⟨_,0,1,rfl,by rw [size_alloc];omega,λi z V=>?_⟩;rw [MX];refine aa ?_
  match i,V with
  | 0,V=>simp at V|-;exact V▸rfl
  | i+1,V=>simp at V
 cases t with
 | nil=>simpa [T.kind]using h _ _ (Ex.refl w) (.inl ⟨rfl,rfl⟩) (λg H=>by cases H)
 | sum p q=>
  simp only [T.wf,Mp]at hw;simp only [T.kind]
  repeat' first | refine aT (by decide) ?_ | refine cN (by decide) ?_ | refine ck (by decide) ?_ | refine dE (by decide) ?_
  have e:=oV p hw.1 (T.sum p q).text 1 (43::(q.text++[41])) rfl ((T.sum p q).text.length+1) (by omega);refine nP _ (by omega) _ 1 (by omega) (by omega:((T.sum p q).text.length:Int) - 1< ((T.sum p q).text.length+1:Nat)) (by omega) ?_;have e':endI (T.sum p q).text ((T.sum p q).text.length+1) 1=((1+p.text.length:Nat):Int):=e;have e3:(T.sum p q).text.length=p.text.length+q.text.length+3:=by simp only [T.text,Mm,Mt,MB];omega
  rw [e'];refine⟨λ _=>True,λw1 Z=>⟨trivial,by omega,by omega,by omega,by omega,λb w2 hb G=>⟨trivial,?_⟩⟩⟩;subst hb;have x1:List.drop 1 (List.take (1+p.text.length) (T.sum p q).text)=p.text:=by
   show List.drop 1 (List.take (1+p.text.length) (40::(p.text++(43::(q.text++[41])))))=_;rw [Nat.add_comm,List.take_succ_cons,List.drop_one,List.tail_cons,List.take_left]
  have x2:List.drop (((1+p.text.length:Nat):Int)+1).toNat (List.take (((T.sum p q).text.length:Int) - 1).toNat (T.sum p q).text)=q.text:=by
   have a1:(((1+p.text.length:Nat):Int)+1).toNat=(40::(p.text++[43])).length:=by simp;omega
   have a2:(((T.sum p q).text.length:Int) - 1).toNat=((40::(p.text++[43]))++q.text).length:=by simp;omega
   have a3:(T.sum p q).text=((40::(p.text++[43]))++q.text)++[41]:=by simp [T.text]
   rw [a1,a2,a3,List.take_left,Pv]
  rw [Mv]at G;have J:w2=w1.alloc (.cells #[.string (ax p.text),.string (ax q.text)] 9):=by
   rw [G];congr 4
   ·exact Nz (λz=>Value.string (ax z)) x1
   ·exact Nz (λz=>[Value.string (ax z)]) x2
  have W:Ex w w1:=Z▸Ex.drew w;exact h _ _ (W.trans (J▸Ex.alloc w1 _)) (two w1 _ _ w2 W J) (λg H=>by cases H;exact W.size)
 | par p q=>
  simp only [T.wf,Mp]at hw;simp only [T.kind]
  repeat' first | refine aT (by decide) ?_ | refine cN (by decide) ?_ | refine ck (by decide) ?_ | refine dE (by decide) ?_
  have e:=oV p hw.1 (T.par p q).text 1 (38::(q.text++[41])) rfl ((T.par p q).text.length+1) (by omega);refine nP _ (by omega) _ 1 (by omega) (by omega:((T.par p q).text.length:Int) - 1< ((T.par p q).text.length+1:Nat)) (by omega) ?_;have e':endI (T.par p q).text ((T.par p q).text.length+1) 1=((1+p.text.length:Nat):Int):=e;have e3:(T.par p q).text.length=p.text.length+q.text.length+3:=by simp only [T.text,Mm,Mt,MB];omega
  rw [e'];refine⟨λ _=>True,λw1 Z=>⟨trivial,by omega,by omega,by omega,by omega,λb w2 hb G=>⟨trivial,?_⟩⟩⟩;subst hb;have x1:List.drop 1 (List.take (1+p.text.length) (T.par p q).text)=p.text:=by
   show List.drop 1 (List.take (1+p.text.length) (40::(p.text++(38::(q.text++[41])))))=_;rw [Nat.add_comm,List.take_succ_cons,List.drop_one,List.tail_cons,List.take_left]
  have x2:List.drop (((1+p.text.length:Nat):Int)+1).toNat (List.take (((T.par p q).text.length:Int) - 1).toNat (T.par p q).text)=q.text:=by
   have a1:(((1+p.text.length:Nat):Int)+1).toNat=(40::(p.text++[38])).length:=by simp;omega
   have a2:(((T.par p q).text.length:Int) - 1).toNat=((40::(p.text++[38]))++q.text).length:=by simp;omega
   have a3:(T.par p q).text=((40::(p.text++[38]))++q.text)++[41]:=by simp [T.text]
   rw [a1,a2,a3,List.take_left,Pv]
  rw [Mv]at G;have J:w2=w1.alloc (.cells #[.string (ax p.text),.string (ax q.text)] 9):=by
   rw [G];congr 4
   ·exact Nz (λz=>Value.string (ax z)) x1
   ·exact Nz (λz=>[Value.string (ax z)]) x2
  have W:Ex w w1:=Z▸Ex.drew w;exact h _ _ (W.trans (J▸Ex.alloc w1 _)) (two w1 _ _ w2 W J) (λg H=>by cases H;exact W.size)
 | snd a b p=>
  simp only [T.kind]
  repeat' first | refine aT (by decide) ?_ | refine cN (by decide) ?_ | refine ck (by decide) ?_ | refine dE (by decide) ?_
  refine cJ ok ?_;refine⟨by simp only [T.hd,T.text,Mm];omega,λb1 w2 hb G=>?_⟩;subst hb;exact h _ _ (G▸Ex.alloc w _) (one p.text w2 G) (λg H=>by cases H;exact Mu _)
 | rcv a b p=>
  simp only [T.kind]
  repeat' first | refine aT (by decide) ?_ | refine cN (by decide) ?_ | refine ck (by decide) ?_ | refine dE (by decide) ?_
  refine cJ ok ?_;refine⟨by simp only [T.hd,T.text,Mm];omega,λb1 w2 hb G=>?_⟩;subst hb;exact h _ _ (G▸Ex.alloc w _) (one p.text w2 G) (λg H=>by cases H;exact Mu _)
 | tau p=>
  simp only [T.kind]
  repeat' first | refine aT (by decide) ?_ | refine cN (by decide) ?_ | refine ck (by decide) ?_ | refine dE (by decide) ?_
  refine cJ ok ?_;refine⟨by simp only [T.hd,T.text,Mm];omega,λb1 w2 hb G=>?_⟩;subst hb;exact h _ _ (G▸Ex.alloc w _) (one p.text w2 G) (λg H=>by cases H;exact Mu _)
 | rep p=>
  simp only [T.kind]
  repeat' first | refine aT (by decide) ?_ | refine cN (by decide) ?_ | refine ck (by decide) ?_ | refine dE (by decide) ?_
  refine cJ ok ?_;refine⟨by simp only [T.hd,T.text,Mm];omega,λb1 w2 hb G=>?_⟩;subst hb;exact h _ _ (G▸Ex.alloc w _) (one p.text w2 G) (λg H=>by cases H;exact Mu _)
 | res x p=>
  simp only [T.kind]
  repeat' first | refine aT (by decide) ?_ | refine cN (by decide) ?_ | refine ck (by decide) ?_ | refine dE (by decide) ?_
  refine cJ ok ?_;refine⟨by simp only [T.hd,T.text,Mm];omega,λb1 w2 hb G=>?_⟩;subst hb;exact h _ _ (G▸Ex.alloc w _) (one p.text w2 G) (λg H=>by cases H;exact Mu _)
 | mat a b p=>
  simp only [T.kind]
  repeat' first | refine aT (by decide) ?_ | refine cN (by decide) ?_ | refine ck (by decide) ?_ | refine dE (by decide) ?_
  refine cJ ok ?_;refine⟨by simp only [T.hd,T.text,Mm];omega,λb1 w2 hb G=>?_⟩;subst hb;exact h _ _ (G▸Ex.alloc w _) (one p.text w2 G) (λg H=>by cases H;exact Mu _)
theorem cO {t:P}(ok:Ok t){w:World}{R:Value->PV}(h:∀v w',Ex w w'->Strs w' v (t.parts.map T.text)->R v w'):
  PW 117 #[.string (ax t.text)] w (aw [.v] R):=pI ok λv w' G H _=>h v w' G H
def jE (s:Tx):Prop:=s.Pairwise (· < ·)
theorem jE.bound:∀{s:Tx},jE s->s.length<=256
 | [],_=>by simp
 | a::l,h=>by
  have key:∀(l:Tx) (a:UInt8),jE (a::l)->l.length+a.toNat<=255:=by
   intro l
   induction l with
   | nil=>intro a _;have :=a.toNat_lt;simp;omega
   | cons b l H=>
    intro a h;have G:=OE.1 h;have J:=H b G.2;have V:=Nf.1 (G.1 b (Nc ..));simp only [Mm];omega
  have :=key l a h;simp only [Mm];omega
theorem pB {s:Tx}{i:Nat}(h:i< s.length):bt s i∈s:=by
 simp only [bt,List.getD_eq_getElem?_getD,Mo h,Option.getD_some];exact Mx h
theorem Bh {s:Tx}{c:UInt8}(h:c∈s):∃i,i< s.length/\bt s i=c:=by
 obtain⟨i,hi,e⟩:=Np.1 h;exact⟨i,hi,by simp [bt,hi,e]⟩
theorem ia {s:Tx}{c:UInt8}(hs:s.length<=1099511627776){w:World}{R:Bool->PV}(h:R (decide (c∈s)) w):PW 56 #[.string (ax s),.int .u8 c.toNat] w (aw [.b] R):=by
 refine wV s c w R ?_;dsimp only [go_sem];dsimp only [go_sem,UInt8.reduceOfNat,UInt32.reduceOfNat,Nat.reduceAdd];refine⟨λi w'=>w=w'/\0<=i/\i<=s.length/\∀j:Nat,j< i->bt s j≠c,λi _=>((s.length:Int) - i).toNat,⟨rfl,by omega,by omega,λj J=>by omega⟩,λi w1 W=>?_⟩;obtain⟨rfl,h0,h1,V⟩:=W;refine⟨λG=>⟨by simp at G;omega,λhe=>?_,λhe=>?_⟩,λG=>?_⟩
 ·simp only [Mz]at G he;rw [N5 (he▸pB (by omega))]at h;exact h
 ·simp only [Mz,Mw]at G he;refine⟨by omega,⟨rfl,by omega,by omega,λj J=>?_⟩,by dsimp only;omega⟩;rcases N2 j i.toNat with H | H
  ·exact V j (by omega)
  ·have:j=i.toNat:=by omega
   rw [this];exact he
 ·simp only [Mw]at G;have Z:¬c∈s:=λhm=>by
   obtain⟨j,J,e⟩:=Bh hm;exact V j (by omega) e
  rw [N9 Z]at h;exact h
theorem vL {s:Tx}{i:Int}(H:0<=i)(h:i< s.length):List.drop i.toNat (List.take (i+1).toNat s)=[bt s i.toNat]:=by
 obtain⟨n,rfl⟩:∃n:Nat,i=n:=⟨i.toNat,by omega⟩
 have e:((n:Int)+1).toNat=n+1:=by omega
 have G:n< s.length:=by omega
 rw [e,Mv,List.drop_take,Nat.add_sub_cancel_left,bB G];rfl
theorem fO {s:Tx}{i:Int}(H:0<=i)(h:i< s.length):s.take (i+1).toNat=s.take i.toNat++[bt s i.toNat]:=by
 obtain⟨n,rfl⟩:∃n:Nat,i=n:=⟨i.toNat,by omega⟩
 have e:((n:Int)+1).toNat=n+1:=by omega
 have G:n< s.length:=by omega
 rw [e,Mv,List.take_add_one]
 congr 1
 simp [bt,Mo G]
end Go.Proofs.YtdecokaadekjnaaGreat
