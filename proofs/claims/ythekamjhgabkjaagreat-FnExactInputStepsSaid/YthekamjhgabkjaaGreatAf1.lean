/- Part 1 of a proof of what the last text states; no condition. -/
import Derived.WalkKit
import Derived.KernelRfl
import Derived.MapKept
import Derived.Laws.IdiomCopy
import Derived.Lib.ConvBytes
import Derived.Laws.BytesString
import Derived.Laws.MakeOwn
import Derived.OrdersHeld
import Derived.Test.YthekamjhgabkjaaGreatProg
import Derived.Below
import Derived.Deep.Onto
import Derived.Sort.Walk0
import Derived.Shelf.Small.Strs
import Derived.Sort.OwnSorted
import Derived.Shelf.Sort.Plain
import Derived.Shelf.Slices.In.SortNone
import Derived.OwnWalkIn
import Derived.Shelf.SlicesE.Delete
import Derived.TacticsInMore
import Derived.Shelf.SlSortCmp.Whole1
import Derived.Shelf.SlSortCmp.NoneTotal
import Derived.Test.YthekamjhgabkjaaGreatRows
import Derived.ProofKit
import Derived.OpenShut
import Derived.ShutString
import Derived.ChangeOld
set_option maxRecDepth 100000
set_option maxHeartbeats 4000000
set_option linter.defProp false
set_option linter.unusedVariables false
set_option linter.unusedSimpArgs false
namespace Go.Proofs.YthekamjhgabkjaaGreat
open Go Go.RowKit
def M0:type_of% @List.length_cons:=@List.length_cons
def M5:type_of% @World.cell?_of_block:=@World.cell?_of_block
def M6:type_of% @List.getElem?_eq_getElem:=@List.getElem?_eq_getElem
def M8:type_of% @Bool.and_eq_true:=@Bool.and_eq_true
def M9:type_of% @Result.andThen_ok:=@Result.andThen_ok
def Na:type_of% @World.cell?_setCell_other:=@World.cell?_setCell_other
def Nb:type_of% @List.length_append:=@List.length_append
def Nc:type_of% @Nat.le_refl:=@Nat.le_refl
def Nf:type_of% @Int.toNat_natCast:=@Int.toNat_natCast
def Ng:type_of% @List.take_succ_eq_append_getElem:=@List.take_succ_eq_append_getElem
def Nh:type_of% @List.mem_cons_of_mem:=@List.mem_cons_of_mem
def Ni:type_of% @List.forall_mem_cons:=@List.forall_mem_cons
def Nj:type_of% @decide_eq_true_eq:=@decide_eq_true_eq
def Nk:type_of% @List.mem_append:=@List.mem_append
def Nl:type_of% @Sem.run_bind:=@Sem.run_bind
def Nn:type_of% @Sem.run_pure:=@Sem.run_pure
def No:type_of% @decide_eq_false_iff_not:=@decide_eq_false_iff_not
def Np:type_of% @List.length_nil:=@List.length_nil
def Nq:type_of% @List.length_map:=@List.length_map
def Ns:type_of% @World.cell?_setCell_same:=@World.cell?_setCell_same
def Nt:type_of% @if_neg:=@if_neg
def Nv:type_of% @World.frozen?_setCell:=@World.frozen?_setCell
def Nw:type_of% @List.mem_cons:=@List.mem_cons
def Ny:type_of% @of_decide_eq_false:=@of_decide_eq_false
def Nz:type_of% @Nat.lt_of_lt_of_le:=@Nat.lt_of_lt_of_le
def NA:type_of% @UInt8.le_iff_toNat_le:=@UInt8.le_iff_toNat_le
def NB:type_of% @of_decide_eq_true:=@of_decide_eq_true
def NC:type_of% @List.getElem_mem:=@List.getElem_mem
def ND:type_of% @List.mem_singleton:=@List.mem_singleton
def NF:type_of% @List.eq_nil_of_length_eq_zero:=@List.eq_nil_of_length_eq_zero
def NG:type_of% @List.mem_append_right:=@List.mem_append_right
def NH:type_of% @World.frozen?_of_block:=@World.frozen?_of_block
def NI:type_of% @List.map_cons:=@List.map_cons
def NJ:type_of% @Nat.zero_add:=@Nat.zero_add
def NK:type_of% @UInt8.toNat_inj:=@UInt8.toNat_inj
def NL:type_of% @Array.getElem?_eq_some_iff:=@Array.getElem?_eq_some_iff
def NM:type_of% @List.append_nil:=@List.append_nil
def NO:type_of% @if_pos:=@if_pos
def NP:type_of% @List.mem_cons_self:=@List.mem_cons_self
def NQ:type_of% @Nat.mul_one:=@Nat.mul_one
def NR:type_of% @List.take_length:=@List.take_length
def NS:type_of% @List.mem_append_left:=@List.mem_append_left
def NT:type_of% @List.mem_map:=@List.mem_map
def NU:type_of% @List.nodup_append:=@List.nodup_append
def NV:type_of% @World.size_setCell:=@World.size_setCell
def NW:type_of% @List.length_take:=@List.length_take
def NX:type_of% @List.append_assoc:=@List.append_assoc
def NY:type_of% @Option.some.inj:=@Option.some.inj
def NZ:type_of% @List.getElem?_eq_some_iff:=@List.getElem?_eq_some_iff
def N0:type_of% @List.map_append:=@List.map_append
def N1:type_of% @UInt8.lt_iff_toNat_lt:=@UInt8.lt_iff_toNat_lt
def N2:type_of% @List.nil_append:=@List.nil_append
def N3:type_of% @List.count_append:=@List.count_append
def N4:type_of% @List.drop_eq_getElem_cons:=@List.drop_eq_getElem_cons
def N5:type_of% @Nat.zero_le:=@Nat.zero_le
def N6:type_of% @List.cons_append:=@List.cons_append
def N7:type_of% @List.nodup_cons:=@List.nodup_cons
def N8:type_of% @Nat.le_trans:=@Nat.le_trans
def N9:type_of% @congrArg:=@congrArg
def N':type_of% @Bool.eq_iff_iff:=@Bool.eq_iff_iff
def Oa:type_of% @List.cons.inj:=@List.cons.inj
def Ob:type_of% @List.flatMap_cons:=@List.flatMap_cons
def Oc:type_of% @List.Sublist.refl:=@List.Sublist.refl
def Od:type_of% @List.mem_iff_getElem:=@List.mem_iff_getElem
def Oe:type_of% @Array.getElem?_toList:=@Array.getElem?_toList
def Of:type_of% @List.Perm.refl:=@List.Perm.refl
def Og:type_of% @List.getElem?_take_of_lt:=@List.getElem?_take_of_lt
def Oh:type_of% @Eq.trans:=@Eq.trans
def Oi:type_of% @List.take_append_drop:=@List.take_append_drop
def Oj:type_of% @List.all_cons:=@List.all_cons
def Ol:type_of% @List.sum_cons:=@List.sum_cons
def Om:type_of% @UInt8.toNat_ofNat':=@UInt8.toNat_ofNat'
def On:type_of% @Array.toList_map:=@Array.toList_map
def Oo:type_of% @List.mem_flatMap:=@List.mem_flatMap
def Oq:type_of% @List.map_map:=@List.map_map
def Ot:type_of% @List.map_congr_left:=@List.map_congr_left
def Ou:type_of% @Array.toList_inj:=@Array.toList_inj
def Ov:type_of% @List.getElem_map:=@List.getElem_map
def Ow:type_of% @Option.some.injEq:=@Option.some.injEq
def Ox:type_of% @List.length_singleton:=@List.length_singleton
def Oy:type_of% @Classical.byContradiction:=@Classical.byContradiction
def Oz:type_of% @Bool.or_eq_false_iff:=@Bool.or_eq_false_iff
def OA:type_of% @Bool.and_self:=@Bool.and_self
def OB:type_of% @List.length_drop:=@List.length_drop
def OC:type_of% @List.cons.injEq:=@List.cons.injEq
def OD:type_of% @decide_eq_false:=@decide_eq_false
def OE:type_of% @List.length_set:=@List.length_set
def OF:type_of% @List.filter_append:=@List.filter_append
def OG:type_of% @List.nodup_nil:=@List.nodup_nil
def OH:type_of% @List.flatMap_append:=@List.flatMap_append
def OJ:type_of% @List.sublist_append_right:=@List.sublist_append_right
def OK:type_of% @Bool.or_eq_true:=@Bool.or_eq_true
def OL:type_of% @Bool.or_assoc:=@Bool.or_assoc
def OM:type_of% @Array.getElem?_modify:=@Array.getElem?_modify
def ON:type_of% @Nat.lt_or_ge:=@Nat.lt_or_ge
def OO:type_of% @List.mem_map_of_mem:=@List.mem_map_of_mem
def OP:type_of% @Option.map_some:=@Option.map_some
def OQ:type_of% @List.mem_range:=@List.mem_range
def OS:type_of% @decide_eq_true:=@decide_eq_true
def OT:type_of% @List.drop_eq_nil_of_le:=@List.drop_eq_nil_of_le
def OU:type_of% @List.pairwise_cons:=@List.pairwise_cons
def OV:type_of% @List.all_eq_true:=@List.all_eq_true
def OW:type_of% @List.Sublist.append:=@List.Sublist.append
def OX:type_of% @List.getElem?_map:=@List.getElem?_map
def OY:type_of% @List.getElem?_cons_zero:=@List.getElem?_cons_zero
def OZ:type_of% @Bool.true_and:=@Bool.true_and
def O0:type_of% @MapKept.run_getObj_map:=@MapKept.run_getObj_map
def O1:type_of% @List.getElem?_eq_none:=@List.getElem?_eq_none
def O3:type_of% @List.Pairwise.sublist:=@List.Pairwise.sublist
def O4:type_of% @List.drop_zero:=@List.drop_zero
def O5:type_of% @List.sublist_append_left:=@List.sublist_append_left
def O6:type_of% @List.mem_of_getElem?:=@List.mem_of_getElem?
def O7:type_of% @List.any_eq_true:=@List.any_eq_true
def O8:type_of% @List.drop_length:=@List.drop_length
def O9:type_of% @if_true:=@if_true
def O':type_of% @Nat.add_assoc:=@Nat.add_assoc
def Pa:type_of% @Bool.not_eq_true':=@Bool.not_eq_true'
def Pb:type_of% @Below.frozen:=@Below.frozen
def Pd:type_of% @bytesLess_eq:=@bytesLess_eq
def Pe:type_of% @List.length_filter_le:=@List.length_filter_le
def Pf:type_of% @List.eq_nil_iff_forall_not_mem:=@List.eq_nil_iff_forall_not_mem
def Pg:type_of% @List.getElem?_take:=@List.getElem?_take
def Ph:type_of% @Std.Legacy.Range.forIn_eq_forIn_range':=@Std.Legacy.Range.forIn_eq_forIn_range'
def Pj:type_of% @List.pairwise_append:=@List.pairwise_append
def Pk:type_of% @and_assoc:=@and_assoc
def Pm:type_of% @Nat.min_eq_left:=@Nat.min_eq_left
def Pn:type_of% @List.length_pos_iff:=@List.length_pos_iff
def Po:type_of% @List.filter_eq_self:=@List.filter_eq_self
def Pp:type_of% @MapKept.run_setObj_map:=@MapKept.run_setObj_map
def Pr:type_of% @Bool.or_false:=@Bool.or_false
def Ps:type_of% @List.ext_getElem:=@List.ext_getElem
def Pt:type_of% @World.ownsRow.lt:=@World.ownsRow.lt
def Pu:type_of% @run_underlying:=@run_underlying
def Pv:type_of% @Nat.eq_zero_or_pos:=@Nat.eq_zero_or_pos
def Pw:type_of% @World.ownsRow.mono:=@World.ownsRow.mono
def Px:type_of% @Below.heap_setCell:=@Below.heap_setCell
def Py:type_of% @List.mem_of_find?_eq_some:=@List.mem_of_find?_eq_some
def Pz:type_of% @Array.getElem?_eq_getElem:=@Array.getElem?_eq_getElem
def PA:type_of% @List.sum_append:=@List.sum_append
def PB:type_of% @List.all_append:=@List.all_append
def PC:type_of% @Nat.add_zero:=@Nat.add_zero
def PD:type_of% @List.length_range:=@List.length_range
def PE:type_of% @true_and:=@true_and
def PF:type_of% @List.nodup_iff_count:=@List.nodup_iff_count
def PG:type_of% @List.map_nil:=@List.map_nil
def PH:type_of% @Value.slice.injEq:=@Value.slice.injEq
def PI:type_of% @beq_iff_eq:=@beq_iff_eq
def PJ:type_of% @Bool.and_true:=@Bool.and_true
def PK:type_of% @List.take_set_of_le:=@List.take_set_of_le
def PL:type_of% @List.take_succ_cons:=@List.take_succ_cons
def PM:type_of% @List.map_eq_nil_iff:=@List.map_eq_nil_iff
def PN:type_of% @List.perm_middle:=@List.perm_middle
def PO:type_of% @List.not_mem_nil:=@List.not_mem_nil
def PQ:type_of% @Bool.false_eq_true:=@Bool.false_eq_true
def PS:type_of% @List.take_of_length_le:=@List.take_of_length_le
def PT:type_of% @List.all_nil:=@List.all_nil
def PU:type_of% @Value.int.injEq:=@Value.int.injEq
def PV:type_of% @Bool.false_or:=@Bool.false_or
def PW:type_of% @List.getElem?_toArray:=@List.getElem?_toArray
def PX:type_of% @Nat.le_of_ble_eq_true:=@Nat.le_of_ble_eq_true
def PY:type_of% @List.perm_append_comm:=@List.perm_append_comm
def PZ:type_of% @not_true_eq_false:=@not_true_eq_false
def P0:type_of% @Array.toList_push:=@Array.toList_push
def P1:type_of% @MapKept.bytes_beq:=@MapKept.bytes_beq
def P2:type_of% @Iff.rfl:=@Iff.rfl
def P3:type_of% @World.ownsRow_nil:=@World.ownsRow_nil
def P4:type_of% @not_false_eq_true:=@not_false_eq_true
def P5:type_of% @List.drop_drop:=@List.drop_drop
def P7:type_of% @List.drop_left:=@List.drop_left
def P8:type_of% @Nat.mul_le_mul:=@Nat.mul_le_mul
def P9:type_of% @MapKept.heap_set:=@MapKept.heap_set
def P':type_of% @Ne.symm:=@Ne.symm
def Qa:type_of% @List.isEmpty_iff:=@List.isEmpty_iff
def Qb:type_of% @List.flatMap_map:=@List.flatMap_map
def Qc:type_of% @List.map_set:=@List.map_set
def Qd:type_of% @Nat.add_le_add_left:=@Nat.add_le_add_left
def Qe:type_of% @UInt32.toBitVec_inj:=@UInt32.toBitVec_inj
def Qf:type_of% @or_assoc:=@or_assoc
def Qg:type_of% @or_false:=@or_false
def Qh:type_of% @UInt8.toNat_add:=@UInt8.toNat_add
def Qi:type_of% @Option.map_none:=@Option.map_none
def Qj:type_of% @List.range_succ:=@List.range_succ
def Qk:type_of% @Below.refl:=@Below.refl
def Ql:type_of% @List.getElem?_drop:=@List.getElem?_drop
def Qm:type_of% @if_false:=@if_false
def Qn:type_of% @Nat.le_of_lt:=@Nat.le_of_lt
def Qo:type_of% @Bool.false_and:=@Bool.false_and
def Qp:type_of% @Bool.and_assoc:=@Bool.and_assoc
def Qq:type_of% @List.count_nil:=@List.count_nil
def Qr:type_of% @Nat.sub_zero:=@Nat.sub_zero
def Qs:type_of% @List.lt_irrefl:=@List.lt_irrefl
def Qt:type_of% @not_or:=@not_or
def Qu:type_of% @Addr.mk.injEq:=@Addr.mk.injEq
def Qv:type_of% @and_true:=@and_true
def Qw:type_of% @false_or:=@false_or
abbrev Qx:=World->Prop
abbrev Qy:=Calls Tryz.prog
end Go.Proofs.YthekamjhgabkjaaGreat
namespace Go.Proofs.YthekamjhgabkjaaGreat
open Go Go.RowKit
abbrev aJ:=List UInt8
def ay (l:aJ):ByteArray:=⟨l.toArray⟩
@[reducible] def mF {α:Type}:Array α->List α
 | ⟨l⟩=>l
def pw {α:Type}(a:Array α):mF a=a.toList:=rfl
@[reducible] def Mj {α β:Type}:α×β->β
 | (_,y)=>y
@[reducible] def Ji:Oper->Op
 | ⟨_,op,_,_,_,_⟩=>op
@[reducible] def DH:Oper->Option Nat
 | ⟨d,_,_,_,_,_⟩=>d
@[reducible] def Mv:Oper->Option (Nat×Bool)
 | ⟨_,_,_,_,_,g⟩=>g
@[reducible] def MA:Oper->Nat
 | ⟨_,_,t,_,_,_⟩=>t
@[reducible] def L8:Call->Callee
 | ⟨c,_,_⟩=>c
@[reducible] def Ku:Call->Array Operand
 | ⟨_,a,_⟩=>a
@[reducible] def Md:Call->Array Nat
 | ⟨_,_,t⟩=>t
@[reducible] def Ly:Field->Nat
 | ⟨_,t,_,_,_,_,_⟩=>t
@[reducible] def Kx:Field->Nat
 | ⟨_,_,o,_,_,_,_⟩=>o
@[reducible] def mapR {α β:Type} (f:α->β):List α->List β
 | []=>[]
 | x::l=>f x::mapR f l
def It {α β:Type}(f:α->β):∀l:List α,mapR f l=l.map f
 | []=>rfl
 | x::l=>by simp [mapR,It f l]
@[reducible] def BI {α:Type}:List α->Nat
 | []=>0
 | _::l=>BI l+1
def lq {α:Type}:∀l:List α,BI l=l.length
 | []=>rfl
 | _::l=>by simp [BI,lq l]
@[reducible] def Gg {α:Type}:List α->Nat->Bool
 | [],0=>true
 | _::l,n+1=>Gg l n
 | [],_+1=>false
 | _::_,0=>false
def ze {α:Type}:∀{l:List α} {n:Nat},Gg l n=true->l.length=n
 | [],0,_=>rfl
 | _::l,n+1,h=>by rw [M0,ze (l:=l) h]
 | [],_+1,h=>by cases h
 | _::_,0,h=>by cases h
@[reducible] def mi {α:Type}:List α->Nat->Option α
 | [],_=>none
 | x::_,0=>some x
 | _::l,n+1=>mi l n
def xS {α:Type}:∀(l:List α) (n:Nat),mi l n=l[n]?
 | [],_=>rfl
 | _::_,0=>rfl
 | _::l,n+1=>by simp [mi,xS l n]
def dL {α:Type}(a:Array α)(n:Nat):mi a.toList n=a[n]?:=by rw [xS,Oe]
@[reducible] def zo {α:Type}:List α->List α->List α
 | [],m=>m
 | x::l,m=>x::zo l m
def gV {α:Type}:∀l m:List α,zo l m=l++m
 | [],_=>rfl
 | x::l,m=>by simp [zo,gV l m]
@[reducible] def hasR:List Nat->Nat->Bool
 | [],_=>false
 | x::l,n=>match Nat.beq x n with
  | true=>true
  | false=>hasR l n
def ru:∀(l:List Nat) (n:Nat),hasR l n=l.contains n
 | [],_=>rfl
 | x::l,n=>by
  have h:(Nat.beq x n)=(n==x):=by
   rw [N',Nat.beq_eq,PI];exact eq_comm
  rw [hasR,List.contains_cons,<-h,ru l n];cases Nat.beq x n<;>rfl
def GW {l:List Nat}{n:Nat}(h:hasR l n=true):n∈l:=by rw [ru]at h;simpa using h
@[reducible] def setR {α:Type}:List α->Nat->α->Option (List α)
 | [],_,_=>none
 | _::l,0,y=>some (y::l)
 | x::l,n+1,y=>match setR l n y with
  | some r=>some (x::r)
  | none=>none
def wI {α:Type}{y:α}:∀{l r:List α} {n:Nat},setR l n y=some r->n< l.length/\r=l.set n y
 | [],_,_,h=>by cases h
 | _::l,_,0,h=>by cases h;exact⟨by simp,rfl⟩
 | x::l,_,n+1,h=>by
  simp only [setR]at h;split at h
  ·rename_i r hr;cases h;obtain⟨h1,G⟩:=wI hr;exact⟨by simpa using h1,by rw [G];rfl⟩
  ·cases h
@[reducible] def BM {α:Type}:List α->Nat->List α->Option (List α)
 | l,0,[]=>some l
 | [],0,_::_=>none
 | _::l,0,y::G=>match BM l 0 G with
  | some r=>some (y::r)
  | none=>none
 | [],_+1,_=>none
 | x::l,n+1,G=>match BM l n G with
  | some r=>some (x::r)
  | none=>none
def wM {α:Type}:∀{l r:List α} {n:Nat} {G:List α},BM l n G=some r->n+G.length<=l.length/\r=l.take n++G++l.drop (n+G.length)
 | [],_,0,[],h=>by cases h;exact⟨by simp,by simp⟩
 | _::_,_,0,[],h=>by cases h;exact⟨by simp,by simp⟩
 | [],_,0,_::_,h=>by cases h
 | _::l,_,0,y::G,h=>by
  simp only [BM]at h;split at h
  ·rename_i r hr;cases h;obtain⟨h1,H⟩:=wM hr;refine⟨by simpa using h1,?_⟩;rw [H];simp
  ·cases h
 | [],_,_+1,_,h=>by cases h
 | x::l,_,n+1,G,h=>by
  simp only [BM]at h;split at h
  ·rename_i r hr;cases h;obtain⟨h1,H⟩:=wM hr;refine⟨by rw [M0];omega,?_⟩;rw [H,show n+1+G.length=n+G.length+1 by omega];simp
  ·cases h
@[reducible] def H' {α:Type}:Nat->List α->List α
 | 0,_=>[]
 | n+1,l=>zo l (H' n l)
def Ck {α:Type}:∀(n:Nat) (l:List α),H' n l=(List.replicate n l).flatten
 | 0,_=>rfl
 | n+1,l=>by simp [H',gV,Ck n l,List.replicate_succ]
def jK {a b:Nat}(h:Nat.beq a b=true):a=b:=Nat.eq_of_beq_eq_true h
@[reducible] def Gd {α:Type} (f:α->Bool):List α->Bool
 | []=>true
 | x::l=>match f x with
  | true=>Gd f l
  | false=>false
def Dq {α:Type}(f:α->Bool):∀l:List α,Gd f l=l.all f
 | []=>rfl
 | x::l=>by
  rw [Gd,Oj,Dq f l];cases f x<;>rfl
@[reducible] def mH {α:Type}:List (Nat×α)->Nat->Option α
 | [],_=>none
 | (t,x)::l,n=>match Nat.beq t n with
  | true=>some x
  | false=>mH l n
def qf {α:Type}:∀{l:List (Nat×α)} {n:Nat} {x:α},mH l n=some x->(n,x)∈l
 | [],n,x,h=>by cases h
 | (t,y)::l,n,x,h=>by
  simp only [mH]at h;split at h
  ·rename_i heq;have :=Nat.eq_of_beq_eq_true heq;subst this;cases h;exact NP
  ·exact Nh _ (qf h)
def bt (l:List UInt8)(i:Nat):UInt8:=l.getD i 0
inductive SV where
 | v (x:Value) | i (n:Int) | c (x:UInt8) | w (x:UInt32) | s (l:aJ) | b (x:Bool) | tt | ff | un
 | a (blk off:Nat) | r (n:Int)
 | tup (xs:List SV)
 | ag (xs:List SV)
 | agl (cs:List Value)
mutual
@[reducible] def SV.val:SV->Value
 | .v x=>x | .i n=> .int .i64 n | .c x=> .int .u8 x.toNat | .w x=> .int .u32 x.toNat | .s l=> .string (ay l) | .b x=> .bool x
 | .tt=> .bool true | .ff=> .bool false | .un=>undef | .a blk off=> .pointer (some ⟨blk,off,none⟩)
 | .r n=> .int .i32 n
 | .tup xs=> .tuple (SV.aM xs).toArray
 | .ag xs=> .agg (SV.aM xs).toArray
 | .agl cs=> .agg cs.toArray
@[reducible] def SV.aM:List SV->List Value
 | []=>[]
 | x::xs=>x.val::SV.aM xs
end
inductive Kd where
 | i | c | w | s | b | v
 deriving DecidableEq
abbrev Kd.T:Kd->Type
 | .i=>Int | .c=>UInt8 | .w=>UInt32 | .s=>aJ | .b=>Bool | .v=>Value
@[reducible] def Kd.sv:(k:Kd)->k.T->SV
 | .i=>SV.i | .c=>SV.c | .w=>SV.w | .s=>SV.s | .b=>SV.b | .v=>SV.v
@[reducible] def Kd.un:(k:Kd)->SV->Option k.T
 | .i,.i n=>some n
 | .c,.c x=>some x
 | .w,.w x=>some x
 | .s,.s l=>some l
 | .b,.b x=>some x
 | .b,.tt=>some true
 | .b,.ff=>some false
 | .v,.v x=>some x
 | .v,.a blk off=>some (.pointer (some ⟨blk,off,none⟩))
 | .v,.ag xs=>some (.agg (SV.aM xs).toArray)
 | .v,.agl cs=>some (.agg cs.toArray)
 | _,_=>none
def Kd.Be {k:Kd}{x:SV}{t:k.T}(h:k.un x=some t):x.val=(k.sv t).val:=by
 cases k<;>cases x<;>simp [Kd.un]at h<;>(try subst h)<;>rfl
abbrev Cur:List Kd->Type
 | []=>Qx
 | k::L=>k.T->Cur L
def optK {α:Type}:Option α->(α->Prop)->Prop
 | some x,k=>k x
 | none,_=>False
def bJ {α:Type}{x:Option α}{k:α->Prop}(h:optK x k):∃y,x=some y/\k y:=by
 cases x with
 | none=>exact h.elim
 | some y=>exact⟨y,rfl,h⟩
def optN {α:Type}:Option α->(α->Nat)->Nat
 | some x,k=>k x
 | none,_=>0
def Cur.app:(L:List Kd)->Cur L->List SV->Qx
 | [],R,[],w=>R w
 | k::L,R,x::xs,w=>optK (k.un x) λt=>Cur.app L (R t) xs w
 | _,_,_,_=>False
def Cur.mk:(L:List Kd)->(List SV->Qx)->Cur L
 | [],K=>K []
 | k::L,K=>λt=>Cur.mk L (λxs=>K (k.sv t::xs))
def AllT:(L:List Kd)->(List SV->Prop)->Prop
 | [],K=>K []
 | k::L,K=>∀t:k.T,AllT L (λxs=>K (k.sv t::xs))
@[reducible] def valOf:List SV->Value
 | [x]=>x.val
 | xs=> .tuple (SV.aM xs).toArray
def j5:(L:List Kd)->Cur L->List SV->Ending->Qx
 | [],R,acc,e,w=>e= .returned (valOf acc)/\R w
 | k::L,R,acc,e,w=>∃t:k.T,j5 L (R t) (acc++[k.sv t]) e w
def ax (L:List Kd)(R:Cur L):Ending->Qx:=j5 L R []
def j5.get:∀(L:List Kd) (R:Cur L) (acc:List SV) (e:Ending) (w:World),j5 L R acc e w->
  ∃xs:List SV,e= .returned (valOf (acc++xs))/\Cur.app L R xs w/\xs.length=L.length
 | [],R,acc,e,w,h=>⟨[],by simpa using h.1,h.2,rfl⟩
 | k::L,R,acc,e,w,⟨t,h⟩=>by
  obtain⟨xs,h1,G,H⟩:=j5.get L (R t) _ e w h;refine⟨k.sv t::xs,by simpa using h1,?_,by simp [H]⟩;have:k.un (k.sv t)=some t:=by cases k<;>rfl
  rw [Cur.app,this];exact G
def Cur.B3:∀(L:List Kd) (K:List SV->Qx) (xs:List SV) (w:World),Cur.app L (Cur.mk L K) xs w->
  ∃G:List SV,SV.aM G=SV.aM xs/\K G w
 | [],K,[],w,h=>⟨[],rfl,h⟩
 | [],K,_::_,w,h=>h.elim
 | k::L,K,[],w,h=>h.elim
 | k::L,K,x::xs,w,h=>by
  rw [Cur.app]at h;obtain⟨t,H,h⟩:=bJ h;obtain⟨G,h1,J⟩:=Cur.B3 L _ xs w h;exact⟨k.sv t::G,by simp [SV.aM,h1,Kd.Be H],J⟩
def ax.mono {L:List Kd}{R G:Cur L}(h:∀xs w,Cur.app L R xs w->Cur.app L G xs w){e:Ending}{w:World}(hr:ax L R e w):ax L G e w:=by
 unfold ax at*;revert h hr;generalize ([]:List SV)=acc
 induction L generalizing acc with
 | nil=>exact λh hr=>⟨hr.1,h [] w hr.2⟩
 | cons k L H=>
  rintro h ⟨t,J⟩
  refine⟨t,H _ (λxs w Z=>?_) J⟩;have hk:k.un (k.sv t)=some t:=by cases k<;>rfl
  have :=h (k.sv t::xs) w (by rw [Cur.app,hk];exact Z);rw [Cur.app,hk]at this;exact this
abbrev Env:=List (Nat×SV)
@[reducible] def look:Env->Nat->Option SV
 | [],_=>none
 | (t,x)::e,n=>match Nat.beq t n with
  | true=>some x
  | false=>look e n
@[reducible] def LX:Int->Option UInt8
 | .ofNat n=>match Nat.ble 256 n with
  | true=>none
  | false=>some (UInt8.ofNat n)
 | .negSucc _=>none
@[reducible] def I':Int->Option UInt32
 | .ofNat n=>match Nat.ble 4294967296 n with
  | true=>none
  | false=>some (UInt32.ofNat n)
 | .negSucc _=>none
def G9 {n:Int}{c:UInt8}(h:LX n=some c):n=c.toNat:=by
 cases n with
 | negSucc m=>cases h
 | ofNat m=>
  simp only [LX]at h;split at h
  ·cases h
  ·rename_i hb;cases h;have:¬256<=m:=λG=>by rw [Nat.ble_eq_true_of_le G]at hb;cases hb
   simp only [Om,Nat.reducePow,Int.ofNat_eq_natCast];omega
def C7 {n:Int}{c:UInt32}(h:I' n=some c):n=c.toNat:=by
 cases n with
 | negSucc m=>cases h
 | ofNat m=>
  simp only [I']at h;split at h
  ·cases h
  ·rename_i hb;cases h;have:¬4294967296<=m:=λG=>by rw [Nat.ble_eq_true_of_le G]at hb;cases hb
   simp only [UInt32.toNat_ofNat',Nat.reducePow,Int.ofNat_eq_natCast];omega
def aC (N:Nat)(e:Env)(a:Act):Prop:=a.tmps.size=N/\∀t x,look e t=some x->a.tmps.getD t undef=x.val
def aC.put {N:Nat}{e:Env}{a:Act}(h:aC N e a){d:Nat}(hd:d< N){x:SV}{v:Value}(Z:v=x.val):aC N ((d,x)::e) (a.put (some d) v):=by
 subst Z;refine⟨by simp [Act.put,h.1],λt y J=>?_⟩;simp only [look]at J;split at J
 ·rename_i heq;have :=Nat.eq_of_beq_eq_true heq;subst this;cases J;simp [Act.put,Array.getD,h.1,hd]
 ·rename_i G;have H:d≠t:=λe=>by rw [e,Nat.beq_refl]at G;cases G
  rw [<-h.2 t y J];show(a.tmps.setIfInBounds d x.val).getD t undef=_;simp only [Array.getD,Array.size_setIfInBounds];split
  ·exact Array.getElem_setIfInBounds_ne _ H
  ·rfl
@[reducible] def ev (e:Env):Operand->Option SV
 | .tmp t=>look e t
 | .const (.int .i64 n)=>some (.i n)
 | .const (.int .u8 n)=>match LX n with
  | some c=>some (.c c)
  | none=>some (.v (.int .u8 n))
 | .const (.int .u32 n)=>match I' n with
  | some c=>some (.w c)
  | none=>some (.v (.int .u32 n))
 | .const (.string s)=>some (.s s.data.toList)
 | .const (.bool true)=>some .tt
 | .const (.bool false)=>some .ff
 | .const v=>some (.v v)
 | .global g=>some (.a g 0)
 | .func f=>some (.v (.func (.func f) #[] #[]))
def aD {N:Nat}{e:Env}{a:Act}(h:aC N e a){x:Operand}{y:SV}(G:ev e x=some y):a.eval x=y.val:=by
 cases x with
 | tmp t=>exact h.2 t y G
 | global g=>simp [ev]at G;subst G;rfl
 | func f=>simp [ev]at G;subst G;rfl
 | const v=>
  unfold ev at G;split at G<;>(try (rename_i heq;cases heq))
  all_goals first
   | (cases G;rfl)
   | skip
  ·split at G<;>cases G
   ·rename_i H;exact N9 (Value.int .u8) (G9 H)
   ·rfl
  ·split at G<;>cases G
   ·rename_i H;exact N9 (Value.int .u32) (C7 H)
   ·rfl
attribute [go_sem] Cur Kd.sv Kd.T SV.val SV.aM valOf
structure dv where
 P:Program
 und:Nat->Option TypeDesc
 und_ok:∀t d,und t=some d->P.underlying t=some d
 inf:Nat->Option (Value×Nat×Nat)
 inf_ok:∀t z s b,inf t=some (z,s,b)->∃i,P.info? t=some i/\i.zero=some z/\i.size=s/\i.bytes=b
 fn:Nat->Bool
 fn_ok:∀f,fn f=true->∃g,P.funcs[f]?=some g/\g.body.isNone=false/\(g.name== "runtime.NumGoroutine")=false
 mixed:P.follows .mixedOrders=true
@[reducible] def dv.U (T:dv) (t:Nat):Option TypeDesc:=match T with
 | ⟨_,u,_,_,_,_,_,_⟩=>u t
@[reducible] def dv.I (T:dv) (t:Nat):Option (Value×Nat×Nat):=match T with
 | ⟨_,_,_,i,_,_,_,_⟩=>i t
@[reducible] def dv.F (T:dv) (f:Nat):Bool:=match T with
 | ⟨_,_,_,_,_,b,_,_⟩=>b f
@[reducible] def zw (d:Option TypeDesc):Kd:=match d with
 | some (.int .i64)=> .i | some (.int .u8)=> .c | some (.int .u32)=> .w | some .string=> .s | some .bool=> .b | _=> .v
@[reducible] def He (T:dv) (t:Nat):List Kd:=match T.U t with
 | some (.tuple ts)=>mapR (λu=>zw (T.U u)) (mF ts)
 | d=>[zw d]
abbrev cW (n:Int):Prop:= -9223372036854775808<=n/\n<=9223372036854775807
def jB {n:Int}(h:cW n):IntKind.i64.wrap n=n:=by
 exact IntWalk.i64_in n h
def Au (x:UInt32)(n:Nat):UInt32:=UInt32.ofNat (x.toNat* 2^(min n 32))
@[reducible] def binT (op:BinOp) (x y:SV):Option SV:=match op,x,y with
 | .eql,.i a,.i b=>some (.b (decide (a=b)))
 | .neq,.i a,.i b=>some (.b (!decide (a=b)))
 | .lss,.i a,.i b=>some (.b (decide (a< b)))
 | .leq,.i a,.i b=>some (.b (decide (a<=b)))
 | .gtr,.i a,.i b=>some (.b (decide (b< a)))
 | .geq,.i a,.i b=>some (.b (decide (b<=a)))
 | .eql,.c a,.c b=>some (.b (decide (a=b)))
 | .neq,.c a,.c b=>some (.b (!decide (a=b)))
 | .lss,.c a,.c b=>some (.b (decide (a< b)))
 | .leq,.c a,.c b=>some (.b (decide (a<=b)))
 | .gtr,.c a,.c b=>some (.b (decide (b< a)))
 | .geq,.c a,.c b=>some (.b (decide (b<=a)))
 | .add,.c a,.c b=>some (.c (a+b))
 | .sub,.c a,.c b=>some (.c (a - b))
 | .eql,.s a,.s b=>some (.b (decide (a=b)))
 | .neq,.s a,.s b=>some (.b (!decide (a=b)))
 | .lss,.s a,.s b=>some (.b (Op.bytesLess a b))
 | .leq,.s a,.s b=>some (.b (Op.bytesLess a b||decide (a=b)))
 | .gtr,.s a,.s b=>some (.b (!(Op.bytesLess a b||decide (a=b))))
 | .geq,.s a,.s b=>some (.b (!Op.bytesLess a b))
 | .and,.w a,.w b=>some (.w (a &&& b))
 | .or,.w a,.w b=>some (.w (a ||| b))
 | .xor,.w a,.w b=>some (.w (a^^^b))
 | .andNot,.w a,.w b=>some (.w (a &&& ~~~b))
 | .eql,.w a,.w b=>some (.b (decide (a=b)))
 | .neq,.w a,.w b=>some (.b (!decide (a=b)))
 | .shl,.w a,.c n=>some (.w (Au a n.toNat))
 | _,_,_=>none
@[reducible] def binP (op:BinOp) (x y:SV):Option (Prop×SV):=match op,x,y with
 | .add,.i a,.i b=>some (cW (a+b),.i (a+b))
 | .sub,.i a,.i b=>some (cW (a - b),.i (a - b))
 | .mul,.i a,.i b=>some (cW (a* b),.i (a* b))
 | .quo,.i a,.i b=>some (0<=a/\0< b/\cW a,.i (a / b))
 | .rem,.i a,.i b=>some (0<=a/\0< b,.i (a % b))
 | .add,.s a,.s b=>some (a.length+b.length<=4611686018427387904,.s (a++b))
 | .shl,.w a,.i n=>some (0<=n,.w (Au a n.toNat))
 | _,_,_=>none
def fA (l:aJ):(ay l).size=l.length:=by simp [ay,ByteArray.size]
def mV (l:aJ):(ay l).toList=l:=by
 have:∀n i acc,l.length - i=n->ByteArray.toList.loop (ay l) i acc=acc.reverse++l.drop i:=by
  intro n
  induction n with
  | zero=>
   intro i acc h;unfold ByteArray.toList.loop;rw [Nt (by rw [fA];omega),OT (by omega)];simp
  | succ n G=>
   intro i acc h;have hi:i< l.length:=by omega
   unfold ByteArray.toList.loop;rw [NO (by rw [fA];exact hi),G _ _ (by omega),N4 hi];have:(ay l).get! i=l[i]:=by simp [ay,ByteArray.get!,hi]
   simp [this]
 simpa [ByteArray.toList]using this _ 0 [] rfl
def Bn (a b:aJ):ay a++ay b=ay (a++b):=by
 apply ByteArray.ext;simp [ay]
def CT {a b:aJ}(h:ay a=ay b):a=b:=by simpa [ay]using h
def y8 (l:aJ)(i j:Nat):(ay l).extract i j=ay ((l.take j).drop i):=by
 apply ByteArray.ext;simp [ay,ByteArray.data_extract,List.drop_take]
def JW (s:ByteArray):s=ay s.data.toList:=by cases s;simp [ay]
def xy {α:Type}[BEq α][LawfulBEq α][DecidableEq α](a b:α):(a==b)=decide (a=b):=by
 rw [N'];simp
def Mr (a b:UInt8):((a.toNat:Int)==(b.toNat:Int))=decide (a=b):=by
 rw [N'];simp only [PI,Nj];constructor
 ·intro h;exact NK.1 (by omega)
 ·rintro rfl;rfl
def IY (a b:UInt32):((a.toNat:Int)==(b.toNat:Int))=decide (a=b):=by
 rw [N'];simp only [PI,Nj];constructor
 ·intro h;exact UInt32.toNat_inj.1 (by omega)
 ·rintro rfl;rfl
def wrap_u8 (n:Int):IntKind.u8.wrap n=n % 256:=by simp [IntKind.wrap,IntKind.bits,IntKind.signed]
def wrap_u32 (n:Int):IntKind.u32.wrap n=n % 4294967296:=by simp [IntKind.wrap,IntKind.bits,IntKind.signed]
def KJ (a:UInt32):BitVec.ofInt IntKind.u32.bits (a.toNat:Int)=a.toBitVec:=by
 apply BitVec.eq_of_toNat_eq;have :=a.toNat_lt;simp [IntKind.bits]
def eqGuard_plain {P:Program}{w:World}{op:BinOp}{t:TypeId}{x y:Operand}{a b:Value}
  (h:(match a,b with | .nilIface,.nilIface=>false | .agg _,.agg _=>false | _,_=>true)=true):(eqGuard op t x y a b).run P w= .ok () w:=by
 unfold eqGuard;cases a<;>cases b<;>simp at h<;>cases op<;>rfl
def wz {T:dv}{o:Oper}{op:BinOp}{t J:Nat}{G H:Operand}{ρ:Operand->Value}{v:Value}{w:World}(Z:o.op= .binOp op t G H J)
  (hg:(eqGuard op t G H (ρ G) (ρ H)).run T.P w= .ok () w) (h:(binOp op t (ρ G) (ρ H)).run T.P w= .ok v w):(execOp ρ o).run T.P w= .ok (.value v) w:=by
 simp only [execOp,Z,Nl,hg,M9,h,Nn]
def MI {a b:UInt8}:((a.toNat:Int)=b.toNat)↔a=b:=⟨λh=>NK.1 (by omega),λh=>by rw [h]⟩
def MW {a b:UInt8}:((a.toNat:Int)< b.toNat)↔a< b:=by rw [N1];omega
def MU {a b:UInt8}:((a.toNat:Int)<=b.toNat)↔a<=b:=by rw [NA];omega
def Mq {a b:UInt32}:((a.toNat:Int)=b.toNat)↔a=b:=⟨λh=>UInt32.toNat_inj.1 (by omega),λh=>by rw [h]⟩
def Kw (a b:UInt8):IntKind.u8.wrap ((a.toNat:Int)+b.toNat)=(a+b).toNat:=by rw [wrap_u8,Qh];omega
def KO (a b:UInt8):IntKind.u8.wrap ((a.toNat:Int) - b.toNat)=(a - b).toNat:=by
 have :=a.toNat_lt;have :=b.toNat_lt;rw [wrap_u8,UInt8.toNat_sub];omega
def BT (x:UInt32):IntKind.u32.wrap (x.toBitVec.toNat:Int)=x.toNat:=by
 have :=x.toNat_lt;rw [wrap_u32];show((x.toNat:Int)) % 4294967296=_;omega
def I9 (a b:UInt32):IntKind.u32.wrap ((a.toBitVec &&& b.toBitVec).toNat:Int)=(a &&& b).toNat:=BT (a &&& b)
def KH (a b:UInt32):IntKind.u32.wrap ((a.toBitVec ||| b.toBitVec).toNat:Int)=(a ||| b).toNat:=BT (a ||| b)
def H8 (a b:UInt32):IntKind.u32.wrap ((a.toBitVec^^^b.toBitVec).toNat:Int)=(a^^^b).toNat:=BT (a^^^b)
def IM (a b:UInt32):IntKind.u32.wrap ((a.toBitVec &&& ~~~b.toBitVec).toNat:Int)=(a &&& ~~~b).toNat:=BT (a &&& ~~~b)
def Cr (a:UInt32)(n:Nat):IntKind.u32.wrap ((a.toNat:Int)* 2^(min n IntKind.u32.bits))=(Au a n).toNat:=by
 rw [wrap_u32];rw [Au,UInt32.toNat_ofNat'];show((a.toNat:Int)* 2^(min n 32)) % 4294967296=((a.toNat* 2^min n 32 % 4294967296:Nat):Int);rw [Int.natCast_emod,Int.natCast_mul,Int.natCast_pow];rfl
def GR {P:Program}{op:BinOp}{t:Nat}{x y z:SV}{w:World}(h:binT op x y=some z):(binOp op t x.val y.val).run P w= .ok z.val w:=by
 unfold binT at h;split at h<;>cases h<;>simp only [SV.val,binOp,ne_eq,PZ,Qm,Op.intCmp,Op.intArith,Op.intBits,Op.stringOp,Op.shift,Nn,xy,bne,mV,Bool.not_or,
  MI,MW,MU,Mq,gt_iff_lt,ge_iff_le,Kw,KO,KJ]
 ·exact N9 (λv=>Result.ok (Value.int .u32 v) w) (I9 _ _)
 ·exact N9 (λv=>Result.ok (Value.int .u32 v) w) (KH _ _)
 ·exact N9 (λv=>Result.ok (Value.int .u32 v) w) (H8 _ _)
 ·exact N9 (λv=>Result.ok (Value.int .u32 v) w) (IM _ _)
 rw [Nt (by omega),Nn,Nf,Cr]
def Hb {P:Program}{op:BinOp}{t:Nat}{x y z:SV}{p:Prop}{w:World}(h:binP op x y=some (p,z))(G:p):(binOp op t x.val y.val).run P w= .ok z.val w:=by
 unfold binP at h;split at h<;>cases h<;>simp only [SV.val,binOp,ne_eq,PZ,Qm,Op.intArith,Op.intDiv,Op.stringOp,Op.shift,Nn]
 ·rw [jB G]
 ·rw [jB G]
 ·rw [jB G]
 ·obtain⟨H,h1,J⟩:=G;rw [Nt (by omega),Nn,Int.tdiv_eq_ediv_of_nonneg H,jB];rename_i a b;have Z:0<=a / b:=Int.ediv_nonneg H (by omega);have h4:a / b<=a:=Int.ediv_le_self b H;unfold cW at*;omega
 ·rw [Nt (by omega),Nn,Int.tmod_eq_emod_of_nonneg G.1]
 ·rw [Nt,Nn,Bn];rw [fA,fA];simp only [IntKind.max,IntKind.signed,IntKind.bits];simp;omega
 ·rw [Nt (by omega),Nn,Cr]
def vD (x:SV)(h:∀y,x≠ .v y)(G:∀y,x≠ .tup y)(H:∀y,x≠ .ag y)(J:∀y,x≠ .agl y):∀b:Value,(match x.val,b with | .nilIface,.nilIface=>false | .agg _,.agg _=>false | _,_=>true)=true:=by
 intro b;cases x<;>simp only [SV.val]<;>first | rfl | (exact absurd rfl (h _)) | (exact absurd rfl (G _)) | (exact absurd rfl (H _)) | (exact absurd rfl (J _))
attribute [go_sem] He zw
@[reducible] def kD:List SV->SV
 | []=> .tup []
 | [x]=>x
 | x::y::xs=> .tup (x::y::xs)
@[reducible] def evs (e:Env):List Operand->Option (List SV)
 | []=>some []
 | x::xs=>match ev e x,evs e xs with
  | some y,some G=>some (y::G)
  | _,_=>none
@[reducible] def single (d:Option TypeDesc):Bool:=match d with
 | some (.struct _) | some (.array _ _) | some (.tuple _) | some (.named _ _) | none=>false
 | _=>true
@[reducible] def yB (d:Option TypeDesc):Bool:=match d with
 | some (.struct _)=>true
 | some (.array _ _)=>true
 | _=>false
def L1 (k:Kd)(K:SV->Prop):Prop:=∃t:k.T,K (k.sv t)
@[reducible] def L0:SV->Option Int
 | .i n=>some n
 | .c x=>some x.toNat
 | _=>none
@[reducible] def LN:SV->Option Bool
 | .b x=>some x
 | .tt=>some true
 | .ff=>some false
 | _=>none
@[reducible] def JY:SV->Option SV
 | .b x=>some (.b (!x))
 | .tt=>some .ff
 | .ff=>some .tt
 | _=>none
@[reducible] def oneV:Value->Bool
 | .agg _=>false
 | .tuple _=>false
 | _=>true
def oneOk:SV->Prop->Prop
 | .v x,p=>oneV x=true/\p
 | .i _,p=>p
 | .c _,p=>p
 | .w _,p=>p
 | .s _,p=>p
 | .b _,p=>p
 | .tt,p=>p
 | .ff,p=>p
 | .a _ _,p=>p
 | .r _,p=>p
 | .tup _,_=>False
 | .ag _,_=>False
 | .agl _,_=>False
 | .un,_=>False
@[reducible] def cellsOf:SV->List Value
 | .ag xs=>SV.aM xs
 | .agl cs=>cs
 | y=>[y.val]
def okC:SV->Prop->Prop
 | .v x,p=>oneV x=true/\p
 | .i _,p=>p
 | .c _,p=>p
 | .w _,p=>p
 | .s _,p=>p
 | .b _,p=>p
 | .tt,p=>p
 | .ff,p=>p
 | .a _ _,p=>p
 | .r _,p=>p
 | .ag _,p=>p
 | .agl _,p=>p
 | .tup _,_=>False
 | .un,_=>False
def okAllC:List (Nat×SV)->Prop->Prop
 | [],p=>p
 | (_,z)::xs,p=>okC z (okAllC xs p)
@[reducible] def svOf:Value->SV
 | .int .i64 n=> .i n
 | .int .u8 n=>match LX n with
  | some c=> .c c
  | none=> .v (.int .u8 n)
 | .int .u32 n=>match I' n with
  | some c=> .w c
  | none=> .v (.int .u32 n)
 | .string s=> .s s.data.toList
 | .bool true=> .tt
 | .bool false=> .ff
 | x=> .v x
@[reducible] def cellK (T:dv) (t:Nat):Option (List Kd):=match T.U t with
 | some (.struct fs)=>match Gd (λf=>single (T.U (Ly f))) (mF fs)with
  | true=>some (mapR (λf=>zw (T.U (Ly f))) (mF fs))
  | false=>none
 | some (.array n el)=>match Nat.beq n 2,single (T.U el)with
  | true,true=>some [zw (T.U el),zw (T.U el)]
  | _,_=>none
 | _=>none
def CellsAt (w:World)(b:Nat):Nat->List SV->Prop
 | _,[]=>True
 | off,x::xs=>w.cell? ⟨b,off,none⟩=some x.val/\CellsAt w b (off+1) xs
def ExL:(L:List Kd)->(List SV->Prop)->Prop
 | [],K=>K []
 | k::L,K=>∃t:k.T,ExL L λxs=>K (k.sv t::xs)
def xV (w:World)(b off n:Nat)(cs:List Value)(k:SV->Qx):Prop:=
 (cs.length=n/\cs.all oneV=true/\∀j,j< n->(∃u,w.cell? ⟨b,off+j,none⟩=some u)/\w.frozen? ⟨b,off+j,none⟩=false)/\∀w',w'=World.setCells w b off cs->k .un w'
@[reducible] def vT:SV->Bool
 | .ag _=>false
 | .agl _=>false
 | .tup _=>false
 | _=>true
@[reducible] def tX:Value->List Value
 | .agg cs=>mF cs
 | v=>[v]
def lM (v:Value):tX v=v.cells.toList:=by cases v<;>rfl
@[reducible] def is1:Option (Value×Nat×Nat)->Option (Value×Nat)
 | some (z,n,b)=>match Nat.beq n 1 with
  | true=>some (z,b)
  | false=>none
 | none=>none
def nj {x:Option (Value×Nat×Nat)}{z:Value}{b:Nat}(h:is1 x=some (z,b)):x=some (z,1,b):=by
 unfold is1 at h;split at h
 ·split at h
  ·rename_i G;cases h;rw [jK G]
  ·cases h
 ·cases h
@[reducible] def arr2:Option TypeDesc->Option Nat
 | some (.array n el)=>match Nat.beq n 2 with
  | true=>some el
  | false=>none
 | _=>none
@[reducible] def buildAg (T:dv) (fs:Array Field):List SV->List (Nat×SV)->Option (List SV)
 | zs,[]=>some zs
 | zs,(i,x)::r=>match mi (mF fs) i with
  | some fd=>(match is1 (T.I (Ly fd)),vT x with
   | some (_,_),true=>(match setR zs (Kx fd) x with
    | some G=>buildAg T fs G r
    | none=>none)
   | _,_=>none)
  | none=>none
@[reducible] def buildRow (sz:Nat):List Value->List (Nat×SV)->Option (List Value)
 | zs,[]=>some zs
 | zs,(i,x)::r=>match Gg (cellsOf x) sz,BM zs (Nat.mul i sz) (cellsOf x)with
  | true,some G=>buildRow sz G r
  | _,_=>none
@[reducible] def evp (e:Env):List (Nat×Operand)->Option (List (Nat×SV))
 | []=>some []
 | (i,x)::r=>match ev e x,evp e r with
  | some y,some G=>some ((i,y)::G)
  | _,_=>none
def db (w:World)(x:Value)(m:Nat)(sz:Nat)(news:List Value):Prop:=
 news.length=m* sz/\news.all oneV=true/\((x= .slice none m 0/\m=0)\/∃b off c,x= .slice (some ⟨b,off,none⟩) m c/\∀j u,news[j]?=some u->w.cell? ⟨b,off+j,none⟩=some u)
def tY (el sz by_:Nat)(s x:Value)(w:World)(k:SV->Qx):Prop:=
 ∃(base n m:Nat) (xs news:List Value),w.ownsRow base el sz s n xs/\base<=w.heap.size/\db w x m sz news/\(n+m<=maxLen/\(n+m)* by_<=140737488355328)/\
  ∀v w',w'.ownsRow base el sz v (n+m) (xs++news)->w.grownBy w' s.ownBlock->(∀b,v.ownBlock=some b->s.ownBlock=some b\/w.heap.size<=b)->k (.v v) w'
def nilP:Value->Option Bool
 | .pointer q=>some q.isNone
 | .slice a _ _=>some a.isNone
 | .map r=>some r.isNone
 | _=>none
def c8 (l:aJ):List Value:=l.map λc=> .int .u8 c.toNat
def xN (w:World)(el b:Nat)(l:aJ):Prop:=
 ∃cur lo hi,w.heap[b]?=some (.cells cur el (lo,hi))/\cur.toList.take l.length=c8 l/\l.length<=cur.size/\cur.size<=lo
def oneOk.get {z:SV}{p:Prop}(h:oneOk z p):oneV z.val=true/\p:=by
 cases z<;>simp only [oneOk]at h<;>first | exact⟨rfl,h⟩ | exact h
@[reducible] def buildAr:List SV->List (Nat×SV)->Option (List SV)
 | zs,[]=>some zs
 | zs,(i,x)::r=>match vT x,setR zs i x with
  | true,some G=>buildAr G r
  | _,_=>none
@[reducible] def evI (e:Env) (x:Operand):Option Int:=match ev e x with
 | some y=>L0 y
 | none=>none
def yZ {e:Env}{x:Operand}{n:Int}(h:evI e x=some n):∃y,ev e x=some y/\L0 y=some n:=by
 unfold evI at h;split at h
 ·exact⟨_,by assumption,h⟩
 ·cases h
@[reducible] def IH {α β:Type} (f:α->β):Option α->Option β
 | some x=>some (f x)
 | none=>none
@[reducible] def Mu (e:Env):Option Operand->Option SV
 | some x=>ev e x
 | none=>none
@[reducible] def Ky {α:Type}:Option α->Bool
 | some _=>true
 | none=>false
def Db {α:Type}(x:Option α):Ky x=x.isSome:=by cases x<;>rfl
def JA (T:dv)(t:Nat)(a b:Value)(q:Bool):Prop:=∀G H w,(eqGuard .eql t G H a b).run T.P w= .ok () w/\(binOp .eql t a b).run T.P w= .ok (.bool q) w
inductive PR where
 | ret (y:SV) | req (p:Prop) (y:SV) | ok (ps:List (Nat×SV)) (y:SV)
 | nilP (q:Bool) (p:Value) | nilS (q:Bool) (p:Value) | arr (p q:Value)
 | sl (sz:Nat) (v:Value) (lo:Int) (hi:Option Int)
 | ptr (v:Value) | ix (sz:Nat) (v:Value) (n:Int) | len (v:Value) | raw (p:Bool->Prop) | bad
def runPR:PR->(SV->Prop)->Prop
 | .ret y,k=>k y
 | .req p y,k=>p/\k y
 | .ok ps y,k=>okAllC ps (k y)
 | .nilP true p,k=>∃q,p= .pointer q/\k (.b q.isNone)
 | .nilP false p,k=>∃q,p= .pointer q/\k (.b (!q.isNone))
 | .nilS true p,k=>∃q n c,p= .slice q n c/\k (.b q.isNone)
 | .nilS false p,k=>∃q n c,p= .slice q n c/\k (.b (!q.isNone))
 | .arr p q,k=>∃G H J Z:UInt32,p= .agg #[.int .u32 G.toNat,.int .u32 H.toNat]/\q= .agg #[.int .u32 J.toNat,.int .u32 Z.toNat]/\k (.b (!(decide (G=J)&&decide (H=Z))))
 | .sl sz val lo none,k=>∃(a:Option Addr) (len cap:Nat),val= .slice a len cap/\0<=lo/\lo<=(len:Int)/\(len:Int)<=cap/\
   k (.v (.slice (if cap=lo.toNat then a else a.map (·.add (lo.toNat* sz))) ((len:Int).toNat - lo.toNat) (cap - lo.toNat)))
 | .sl sz val lo (some hi),k=>∃(a:Option Addr) (len cap:Nat),val= .slice a len cap/\0<=lo/\lo<=hi/\hi<=cap/\
   k (.v (.slice (if cap=lo.toNat then a else a.map (·.add (lo.toNat* sz))) (hi.toNat - lo.toNat) (cap - lo.toNat)))
 | .ptr val,k=>∃b off,val= .pointer (some ⟨b,off,none⟩)/\k (.a b off)
 | .ix sz val n,k=>∃b off len cap,val= .slice (some ⟨b,off,none⟩) len cap/\0<=n/\n< len/\k (.a b (off+n.toNat* sz))
 | .len val,k=>∃a n cap,val= .slice a n cap/\k (.i n)
 | .raw p,k=>∃q,p q/\k (.b q)
 | .bad,_=>False
@[reducible] def slR (T:dv) (el:Nat) (val:Value) (lo:Int) (hi:Option Int):PR:=match T.I el with
 | none=> .bad
 | some (_,sz,_)=> .sl sz val lo hi
@[reducible] def pureR (T:dv) (e:Env):Op->PR
 | .move x=>match ev e x with | some y=> .ret y | none=> .bad
 | .assign x=>match ev e x with | some y=> .ret y | none=> .bad
 | .pick c a b=>match ev e c with
  | some .tt=>(match ev e a with | some y=> .ret y | none=> .bad)
  | some .ff=>(match ev e b with | some y=> .ret y | none=> .bad)
  | _=> .bad
 | .binOp op t x y _=>match ev e x,ev e y with
  | some a,some b=>(match binT op a b with
   | some z=> .ret z
   | none=>match binP op a b with
    | some (p,z)=> .req p z
    | none=>match op,T.U t,LN a,LN b with
     | .eql,some .bool,some p,some q=> .ret (.b (p==q))
     | .neq,some .bool,some p,some q=> .ret (.b (!(p==q)))
     | .eql,some (.pointer _),none,none=>(match a,b with
      | .v p,.v (.pointer none)=> .nilP true p
      | .a _ _,.v (.pointer none)=> .ret .ff
      | _,_=> .bad)
     | .neq,some (.pointer _),none,none=>(match a,b with
      | .v p,.v (.pointer none)=> .nilP false p
      | .a _ _,.v (.pointer none)=> .ret .tt
      | _,_=> .bad)
     | .eql,some (.slice _),none,none=>(match a,b with
      | .v p,.v (.slice none n m)=>(match Nat.beq n 0,Nat.beq m 0 with
       | true,true=> .nilS true p
       | _,_=> .bad)
      | _,_=> .bad)
     | .neq,some (.slice _),none,none=>(match a,b with
      | .v p,.v (.slice none n m)=>(match Nat.beq n 0,Nat.beq m 0 with
       | true,true=> .nilS false p
       | _,_=> .bad)
      | _,_=> .bad)
     | .neq,some (.array n el),none,none=>(match Nat.beq n 2,T.U el,is1 (T.I el),a,b with
      | true,some (.int .u32),some (_,_),.v p,.v q=> .arr p q
      | _,_,_,_,_=> .bad)
     | .eql,some (.struct _),none,none=>(match a,b with
      | .ag xs,.ag G=> .raw (JA T t (SV.ag xs).val (SV.ag G).val)
      | _,_=> .bad)
     | _,_,_,_=> .bad)
  | _,_=> .bad
 | .unOp op _ x=>match op,ev e x with
  | .not,some y=>(match JY y with | some z=> .ret z | none=> .bad)
  | .neg,some (.i n)=> .req (cW (0 - n)) (.i (0 - n))
  | _,_=> .bad
 | .convert src dst x=>match T.U src,T.U dst,ev e x with
  | some (.int _),some (.int .i64),some (.c x)=> .ret (.i x.toNat)
  | some (.int _),some (.int .u8),some (.i n)=> .ret (.c (UInt8.ofNat (n % 256).toNat))
  | some (.int _),some (.int .i64),some (.i n)=> .req (cW n) (.i n)
  | some (.int _),some (.int .i32),some (.c x)=> .ret (.r x.toNat)
  | some (.int _),some (.int .i32),some (.i n)=> .req (0<=n/\n< 2147483648) (.r n)
  | some (.int _),some .string,some (.r n)=> .req (0<=n/\n< 128) (.s [UInt8.ofNat n.toNat])
  | _,_,_=> .bad
 | .index t x ix=>match T.U t,ev e x,ev e ix with
  | some .string,some (.s l),some (.i n)=> .req (0<=n/\n< l.length) (.c (bt l n.toNat))
  | _,_,_=> .bad
 | .slice t x lo hi none=>match T.U t,ev e x,IH (ev e) lo,IH (ev e) hi with
  | some .string,some (.s l),none,none=> .ret (.s l)
  | some .string,some (.s l),some (some (.i a)),none=> .req (0<=a/\a<=l.length) (.s (l.drop a.toNat))
  | some .string,some (.s l),none,some (some (.i b))=> .req (0<=b/\b<=l.length) (.s (l.take b.toNat))
  | some .string,some (.s l),some (some (.i a)),some (some (.i b))=> .req (0<=a/\a<=b/\b<=l.length) (.s ((l.take b.toNat).drop a.toNat))
  | some (.slice el),some (.v val),none,none=>slR T el val 0 none
  | some (.slice el),some (.v val),some (some (.i a)),none=>slR T el val a none
  | some (.slice el),some (.v val),none,some (some (.i b))=>slR T el val 0 (some b)
  | some (.slice el),some (.v val),some (some (.i a)),some (some (.i b))=>slR T el val a (some b)
  | _,_,_,_=> .bad
 | .extract x i=>match ev e x with
  | some (.tup xs)=>(match mi xs i with | some y=> .ret y | none=> .bad)
  | _=> .bad
 | .nilCheck x=>match ev e x with
  | some (.a b off)=> .ret (.a b off)
  | some (.v val)=> .ptr val
  | _=> .bad
 | .fieldAddr s x f=>match T.U s,ev e x with
  | some (.struct fs),some (.a b off)=>(match mi (mF fs) f with
   | some fd=>(match T.I (Ly fd)with
    | some (_,sz,_)=>(match Nat.beq sz 0 with
     | true=> .bad
     | false=> .ret (.a b (off+(Kx fd))))
    | none=> .bad)
   | none=> .bad)
  | _,_=> .bad
 | .indexAddr t x ix=>match T.U t,ev e x,evI e ix with
  | some (.slice el),some (.v val),some n=>(match T.I el with
   | some (_,sz,_)=> .ix sz val n
   | none=> .bad)
  | some (.array len el),some (.a b off),some n=>(match T.I el with
   | some (_,sz,_)=> .req (0<=n/\n< len) (.a b (off+n.toNat* sz))
   | none=> .bad)
  | _,_,_=> .bad
 | .build t parts=>match T.U t,T.I t,evp e (mF parts)with
  | some (.struct fs),some (.agg zs,_,_),some ps=>(match Gd (λf=>Ky (T.I (Ly f))) (mF fs),buildAg T fs (mapR svOf (mF zs)) ps with
   | true,some xs=> .ok ps (.ag xs)
   | _,_=> .bad)
  | some (.array _ el),some (.agg zs,_,_),some []=>(match Ky (T.I el)with
   | true=> .ret (.agl (mF zs))
   | false=> .bad)
  | some (.array _ el),some (.agg zs,_,_),some (p::ps)=>(match is1 (T.I el)with
   | some (_,_)=>(match buildAr (mapR svOf (mF zs)) (p::ps)with
    | some xs=> .ok (p::ps) (.ag xs)
    | none=> .bad)
   | _=> .bad)
  | _,_,_=> .bad
 | .makeFunc fn first captured=>match fn,evs e (mF first),evs e (mF captured)with
  | .func f,some [],some G=> .ret (.v (.func (.func f) #[] (SV.aM G).toArray))
  | _,_,_=> .bad
 | .call c=>match L8 c with
  | .builtin .len=>(match mi (mF (Md c)) 0,Mu e (mi (mF (Ku c)) 0)with
   | some t,some (.s l)=>(match T.U t with | some .string=> .ret (.i l.length) | _=> .bad)
   | some t,some (.v val)=>(match T.U t with | some (.slice _)=> .len val | _=> .bad)
   | _,_=> .bad)
  | .builtin .max=>(match evs e (mF (Ku c))with
   | some [.i p,.i q]=> .ret (.i (if q> p then q else p))
   | some [.s p,.s q]=> .ret (.s (if(!Op.bytesLess p q)then p else q))
   | _=> .bad)
  | .builtin .min=>(match evs e (mF (Ku c))with
   | some [.i p,.i q]=> .ret (.i (if q< p then q else p))
   | some [.s p,.s q]=> .ret (.s (if(Op.bytesLess p q||decide (p=q))then p else q))
   | _=> .bad)
  | _=> .bad
 | _=> .bad
def yy (T:dv)(e:Env)(o:Oper)(k:SV->Prop):Prop:=runPR (pureR T e (Ji o)) k
def forceL {α:Type}:List α->(List α->Prop)->Prop
 | [],k=>k []
 | x::l,k=>forceL l λl'=>k (x::l')
def fX {α:Type}:∀(l:List α) (k:List α->Prop),forceL l k=k l
 | [],_=>rfl
 | x::l,k=>by rw [forceL,fX l]
inductive LR where
 | one (k:Kd) | agg (ks:List Kd) | list (n:Nat) | bad
@[reducible] def loadR (T:dv) (t:Nat):LR:=match single (T.U t)with
 | true=> .one (zw (T.U t))
 | false=>match yB (T.U t),cellK T t,T.I t with
   | true,some ks,some (_,n,_)=>(match Nat.beq (BI ks) n with
    | true=> .agg ks
    | false=> .bad)
   | true,none,some (_,n,_)=> .list n
   | _,_,_=> .bad
def runLoad:LR->World->Nat->Nat->(SV->Qx)->Prop
 | .one kd,w,b,off,k=>L1 kd λy=>w.cell? ⟨b,off,none⟩=some y.val/\k y w
 | .agg ks,w,b,off,k=>ExL ks λxs=>CellsAt w b off xs/\k (.ag xs) w
 | .list n,w,b,off,k=>∃cs:List Value,cs.length=n/\(∀j,j< n->w.cell? ⟨b,off+j,none⟩=cs[j]?)/\k (.agl cs) w
 | .bad,_,_,_,_=>False
def sF (T:dv)(t b off:Nat)(w:World)(k:SV->Qx):Prop:=runLoad (loadR T t) w b off k
inductive SR where
 | one (z:SV) | many (n:Nat) (cs:List Value) | val (n:Nat) (x:Value) | bad
@[reducible] def storeR (T:dv) (t:Nat) (z:SV):SR:=match single (T.U t)with
 | true=>(match is1 (T.I t)with
    | some (_,_)=> .one z
    | _=> .bad)
 | false=>(match T.I t,z with
    | some (_,n,_),.ag xs=> .many n (SV.aM xs)
    | some (_,n,_),.agl cs=> .many n cs
    | some (_,n,_),.v x=> .val n x
    | _,_=> .bad)
def runStore:SR->World->Nat->Nat->(SV->Qx)->Prop
 | .one z,w,b,off,k=>oneOk z (((∃u,w.cell? ⟨b,off,none⟩=some u)/\w.frozen? ⟨b,off,none⟩=false)/\∀w',w'=w.setCell ⟨b,off,none⟩ z.val->k .un w')
 | .many n cs,w,b,off,k=>xV w b off n cs k
 | .val n x,w,b,off,k=>∃cs:List Value,x= .agg cs.toArray/\xV w b off n cs k
 | .bad,_,_,_,_=>False
def pk (T:dv)(t b off:Nat)(z:SV)(w:World)(k:SV->Qx):Prop:=runStore (storeR T t z) w b off k
noncomputable def eG (es:List MapEntry)(q:Value):Option Value:=open Classical in (es.find? λx=>decide (x.key=q)).map (·.val)
def ky (d:TypeDesc)(q:Value):Prop:=match d with
 | .array n _=>n=2/\∃x y,q= .agg #[.string x,.string y]
 | d=>MapKept.IsKey d q
def IsMap (w:World)(r:Nat)(d:TypeDesc)(m:Value->Option Value):Prop:=
 ∃es clock,w.heap[r]?=some (.map es clock)/\MapKept.Stamped es clock/\(∀x∈es.toList,ky d x.key)/\∀q,m q=eG es.toList q
noncomputable def gz (m:Value->Option Value)(q v:Value):Value->Option Value:=open Classical in λx=>if x=q then some v else m x
structure dR (w w':World)(r:Nat):Prop where
 os:w'.os=w.os
 tape:w'.tape=w.tape
 output:w'.output=w.output
 size:w'.heap.size=w.heap.size
 block:∀b,b≠r->w'.heap[b]?=w.heap[b]?
@[reducible] def keyOk (d:TypeDesc) (y:SV):Bool:=match d,y with
 | .int .i64,.i _=>true
 | .int .u8,.c _=>true
 | .string,.s _=>true
 | _,_=>false
@[reducible] def keyOkT (T:dv) (d:TypeDesc) (y:SV):Bool:=match keyOk d y,d,y with
 | true,_,_=>true
 | false,.array n e,.ag [.s _,.s _]=>(match Nat.beq n 2,T.U e,is1 (T.I e)with
  | true,some .string,some (_,_)=>true
  | _,_,_=>false)
 | _,_,_=>false
def Ds (w:World)(r:Nat)(s:Int)(q:Value):Prop:=
 ∃(es:Array MapEntry) (clock j:Nat) (x:MapEntry),w.heap[r]?=some (.map es clock)/\es[j]?=some x/\x.key=q/\s=x.born
@[reducible] def GD (d:Option TypeDesc):Bool:=match d with
 | some (.struct _)=>true
 | some (.array _ _)=>true
 | _=>false
@[reducible] def svV:SV->Option Value
 | .v x=>some x
 | _=>none
def GU {y:SV}{x:Value}(h:svV y=some x):y= .v x:=by
 unfold svV at h;split at h<;>cases h
 rfl
@[reducible] def Js (ok:Bool) (y:SV) (g:Bool):SV:=match ok with
 | true=> .tup [y,.b g]
 | false=>y
inductive OR where
 | pure (p:PR)
 | toB (el:Nat) (l:aJ) | ofB (v:Value)
 | load (r:LR) (b off:Nat) | loadV (r:LR) (v:Value)
 | store (r:SR) (b off:Nat) | storeV (r:SR) (v:Value)
 | alloc (cs:List Value) (el:Nat) | mmap
 | mksl (el:Nat) (z:Value) (n m:Int)
 | mapup (d:TypeDesc) (v:Value) (q z:SV) | mapent (d:TypeDesc) (v:Value) (q:SV) | entst (v:Value) (s:Int) (y:SV)
 | lookup (d:TypeDesc) (kd:Kd) (z v:Value) (q:SV) (ok:Bool)
 | boxA (el:Nat) (v:Value) | box1 (el:Nat) (v:Value) | boxC (el:Nat) (y:SV)
 | bsl (el len:Nat) (ps:List (Nat×SV)) (cs:List Value)
 | app (el sz by_:Nat) (s x:Value) | clr (z s:Value)
 | dyn (v:Value) (xs:List SV) (L:List Kd) | call (f:Nat) (xs:List SV) (L:List Kd)
 | bad
def runOR (T:dv):OR->World->(SV->Qx)->Prop
 | .pure p,w,k=>runPR p λy=>k y w
 | .toB el l,w,k=>∀(b cap:Nat) (w':World),b=w.heap.size->xN w' el b l->w.grownBy w' none->k (.v (.slice (some ⟨b,0,none⟩) l.length cap)) w'
 | .ofB val,w,k=>∃(b off n c:Nat) (l:aJ),val= .slice (some ⟨b,off,none⟩) n c/\l.length=n/\(∀j x,l[j]?=some x->w.cell? ⟨b,off+j,none⟩=some (.int .u8 x.toNat))/\k (.s l) w
 | .load r b off,w,k=>runLoad r w b off k
 | .loadV r val,w,k=>∃b off,val= .pointer (some ⟨b,off,none⟩)/\runLoad r w b off k
 | .store r b off,w,k=>runStore r w b off k
 | .storeV r val,w,k=>∃b off,val= .pointer (some ⟨b,off,none⟩)/\runStore r w b off k
 | .alloc cs el,w,k=>forceL cs λcs=>∀(b:Nat) (w':World),b=w.heap.size->w'=w.alloc (.cells cs.toArray el)->k (.a b 0) w'
 | .mmap,w,k=>∀(b:Nat) (w':World),b=w.heap.size->w'=w.alloc (.map #[] 0)->k (.v (.map (some b))) w'
 | .mksl el z n m,w,k=>(0<=n/\n=m/\n<=1099511627776)/\∀(b:Nat) (w':World),b=w.heap.size->w'=w.alloc (.cells (List.replicate n.toNat z).toArray el)->k (.v (.slice (some ⟨b,0,none⟩) n.toNat n.toNat)) w'
 | .mapup d val q z,w,k=>∃(r:Nat) (mm:Value->Option Value),val= .map (some r)/\IsMap w r d mm/\∀w',IsMap w' r d (gz mm q.val z.val)->dR w w' r->k .un w'
 | .mapent d val q,w,k=>∃(r:Nat) (mm:Value->Option Value),val= .map (some r)/\IsMap w r d mm/\∀(v0:Value) (s:Int) (w':World),IsMap w' r d (gz mm q.val v0)->dR w w' r->Ds w' r s q.val->k (.tup [.v v0,.i s]) w'
 | .entst val s y,w,k=>∃(r:Nat) (d:TypeDesc) (mm:Value->Option Value) (q:Value),val= .map (some r)/\IsMap w r d mm/\Ds w r s q/\∀w',IsMap w' r d (gz mm q y.val)->dR w w' r->k .un w'
 | .lookup d kd z val q ok,w,k=>∃(r:Nat) (mm:Value->Option Value),val= .map (some r)/\IsMap w r d mm/\L1 kd λy=>∃g:Bool,((g=true/\mm q.val=some y.val)\/(g=false/\mm q.val=none/\y.val=z))/\k (Js ok y g) w
 | .boxA el val,w,k=>∃cs:List Value,val= .agg cs.toArray/\∀(b:Nat) (w':World),b=w.heap.size->w'=w.alloc (.cells cs.toArray el)->k (.a b 0) w'
 | .box1 el val,w,k=>oneV val=true/\∀(b:Nat) (w':World),b=w.heap.size->w'=w.alloc (.cells #[val] el)->k (.a b 0) w'
 | .boxC el y,w,k=>okC y (forceL (cellsOf y) λcs=>∀(b:Nat) (w':World),b=w.heap.size->w'=w.alloc (.cells cs.toArray el)->k (.a b 0) w')
 | .bsl el len ps cs,w,k=>okAllC ps (forceL cs λcs=>∀(b:Nat) (w':World),b=w.heap.size->w'=w.alloc (.cells cs.toArray el)->k (.v (.slice (some ⟨b,0,none⟩) len len)) w')
 | .app el sz by_ s x,w,k=>tY el sz by_ s x w k
 | .clr z s,w,k=>∃(a:Option Addr) (n cap:Nat),s= .slice a n cap/\((n=0/\k (.tup []) w)\/∃b off,a=some ⟨b,off,none⟩/\(∀j,j< n->(∃u,w.cell? ⟨b,off+j,none⟩=some u)/\w.frozen? ⟨b,off+j,none⟩=false)/\∀w',w'=World.setCells w b off (List.replicate n z)->k (.tup []) w')
 | .dyn val xs L,w,k=>forceL (SV.aM xs) λvs=>forceL L λL=>∃(f:Nat) (ca:List Value),val= .func (.func f) #[] ca.toArray/\T.fn f=true/\Calls T.P f (vs++ca).toArray w (ax L (Cur.mk L λG w'=>k (kD G) w'))
 | .call f xs L,w,k=>forceL (SV.aM xs) λvs=>forceL L λL=>Calls T.P f vs.toArray w (ax L (Cur.mk L λG w'=>k (kD G) w'))
 | .bad,_,_=>False
@[reducible] def mapupR (T:dv) (e:Env) (t:Nat) (m x y:Operand):OR:=match T.U t,ev e m,ev e x,ev e y with
  | some (.map kt _),some (.v val),some q,some z=>(match T.U kt with
   | some d=>(match keyOkT T d q with
    | true=> .mapup d val q z
    | false=> .bad)
   | none=> .bad)
  | _,_,_,_=> .bad
@[reducible] def opR (T:dv) (e:Env) (o:Oper):OR:=
 match (Ji o)with
 | .convert src dst x=>match T.U src,T.U dst,ev e x with
  | some .string,some (.slice el),some (.s l)=>(match T.U el with
   | some (.int .u8)=> .toB el l
   | _=> .bad)
  | some (.slice el),some .string,some (.v val)=>(match T.U el with
   | some (.int .u8)=> .ofB val
   | _=> .bad)
  | _,_,_=> .pure (pureR T e (Ji o))
 | .load t x=>match ev e x with
  | some (.a b off)=> .load (loadR T t) b off
  | some (.v val)=> .loadV (loadR T t) val
  | _=> .bad
 | .store t x y=>match ev e x,ev e y with
  | some (.a b off),some z=> .store (storeR T t z) b off
  | some (.v val),some z=> .storeV (storeR T t z) val
  | _,_=> .bad
 | .alloc el=>match T.I el with
  | some (z,_,_)=> .alloc (tX z) el
  | none=> .bad
 | .makeMap _ none=> .mmap
 | .makeSlice t l c=>match T.U t,ev e l,ev e c with
  | some (.slice el),some (.i n),some (.i m)=>(match is1 (T.I el)with
   | some (z,by_)=>(match oneV z,Nat.ble by_ 256 with
    | true,true=> .mksl el z n m
    | _,_=> .bad)
   | _=> .bad)
  | _,_,_=> .bad
 | .mapUpdate t m x y=>mapupR T e t m x y
 | .insert t m x y=>mapupR T e t m x y
 | .mapEntry t m x=>match T.U t,ev e m,ev e x with
  | some (.map kt G),some (.v val),some q=>(match T.U kt,T.I G with
   | some d,some _=>(match keyOkT T d q with
    | true=> .mapent d val q
    | false=> .bad)
   | _,_=> .bad)
  | _,_,_=> .bad
 | .entryStore _ m s y=>match ev e m,ev e s,ev e y with
  | some (.v val),some (.i s),some y=> .entst val s y
  | _,_,_=> .bad
 | .lookup t m x ok=>match T.U t,ev e m,ev e x with
  | some (.map kt G),some (.v val),some q=>(match T.U kt,T.I G with
   | some d,some (z,_,_)=>(match keyOkT T d q with
    | true=> .lookup d (zw (T.U G)) z val q ok
    | false=> .bad)
   | _,_=> .bad)
  | _,_,_=> .bad
 | .box el x=>match ev e x with
  | some y=>(match svV y,GD (T.U el)with
   | some val,true=> .boxA el val
   | some val,false=> .box1 el val
   | none,_=> .boxC el y)
  | none=> .bad
 | .buildSlice t len parts=>match T.U t,evp e (mF parts)with
  | some (.slice el),some ps=>(match T.I el with
   | some (z,sz,_)=>(match Nat.beq (BI (tX z)) sz,Nat.ble 1 sz,Nat.ble (Nat.mul len sz) 16777216,buildRow sz (H' len (tX z)) ps with
     | true,true,true,some cs=> .bsl el len ps cs
     | _,_,_,_=> .bad)
   | none=> .bad)
  | _,_=> .bad
 | .call c=>match L8 c with
  | .builtin .append=>(match (mF (Md c)),evs e (mF (Ku c))with
   | [t,H],some [.v s,.v x]=>(match Nat.beq t H,T.U t with
     | true,some (.slice el)=>(match T.I el with
      | some (z,sz,by_)=>(match Nat.beq (BI (tX z)) sz,Nat.ble 1 sz with
       | true,true=> .app el sz by_ s x
       | _,_=> .bad)
      | none=> .bad)
     | _,_=> .bad)
   | _,_=> .bad)
  | .builtin .clear=>(match (mF (Md c)),evs e (mF (Ku c))with
   | [t],some [.v s]=>(match T.U t with
    | some (.slice el)=>(match is1 (T.I el)with
     | some (z,_)=>(match oneV z with
      | true=> .clr z s
      | false=> .bad)
     | _=> .bad)
    | _=> .bad)
   | _,_=> .bad)
  | .value (.tmp t)=>(match look e t,evs e (mF (Ku c))with
   | some (.v val),some xs=> .dyn val xs (He T (MA o))
   | _,_=> .bad)
  | .value (.func f)=>(match T.F f,evs e (mF (Ku c))with
    | true,some xs=> .call f xs (He T (MA o))
    | _,_=> .bad)
  | _=> .pure (pureR T e (Ji o))
 | _=> .pure (pureR T e (Ji o))
def AK (T:dv)(e:Env)(o:Oper)(w:World)(k:SV->Qx):Prop:=runOR T (opR T e o) w k
attribute [go_sem] Kx kD CellsAt xV Option.getD_some Option.getD_none Js
section
variable {T:dv} {N:Nat} {e:Env} {o:Oper} {a:Act} {w:World} {k:SV->Qx}
def cC (P:Program)(o:Oper)(a:Act)(w:World)(k:SV->Qx):Prop:=
 ∀(next:Act->Qx) (Q:Exit->Act->Qx),(∀y w',k y w'->next (a.put o.dst y.val) w')->o.wp P a w next Q
def cC.value {P:Program}{v:Value}{y:SV}{w':World}(h:(execOp a.eval o).run P w= .ok (.value v) w')(G:v=y.val)(hk:k y w'):cC P o a w k:=by
 intro next Q H;unfold Oper.wp;rw [h,G];exact H _ _ hk
def cC.skip {P:Program}{w':World}(h:(execOp a.eval o).run P w= .ok .skip w')(hk:k .un w'):cC P o a w k:=by
 intro next Q G;unfold Oper.wp;rw [h];exact G _ _ hk
def gg (h:aC N e a):∀{l:List Operand} {xs:List SV},evs e l=some xs->l.map a.eval=SV.aM xs
 | [],xs,G=>by cases G;rfl
 | x::l,xs,G=>by
  unfold evs at G;split at G
  ·rename_i y J h1 H;cases G;simp [SV.aM,aD h h1,gg h H]
  ·cases G
def jE:∀{xs G:List SV},SV.aM G=SV.aM xs->valOf xs=(kD G).val
 | [],[],_=>rfl
 | [],_::_,h=>by simp [SV.aM]at h
 | _::_,[],h=>by simp [SV.aM]at h
 | [x],[y],h=>by simp [SV.aM]at h;simp [valOf,kD,h]
 | [x],_::_::_,h=>by simp [SV.aM]at h
 | _::_::_,[y],h=>by simp [SV.aM]at h
 | x::H::xs,y::J::G,h=>by simp only [valOf,kD,SV.val];rw [h]
def Dy {f:Nat}{c:Call}{xs:List SV}{L:List Kd}(Z:aC N e a)(ho:o.op= .call c)(hc:c.callee= .value (.func f))(hf:T.fn f=true)(hx:evs e c.args.toList=some xs)
  (h:Calls T.P f (SV.aM xs).toArray w (ax L (Cur.mk L λys w'=>k (kD ys) w'))):cC T.P o a w k:=by
 intro next Q hn;obtain⟨g,hg,hb,β⟩:=T.fn_ok f hf;have G:c.args.map a.eval=(SV.aM xs).toArray:=by
  apply Ou.1;rw [On,gg Z hx]
 have H:(execOp a.eval o).run T.P w= .ok (.enter f (SV.aM xs).toArray) w:=by
  simp only [execOp,ho,resolve,hc,Act.eval,G,Deferred.ofValue,Nl,Nn,M9,invoke,callFunc,run_program,hg,hb,β];simp
 unfold Oper.wp;rw [H,Oper.upon_enter];refine Calls.mono h λe' w' hr=>?_
 obtain⟨ys,rfl,J,_⟩:=j5.get _ _ _ _ _ hr;obtain⟨zs,hz,hk⟩:=Cur.B3 _ _ _ _ J;have :=hn _ _ hk;simpa [jE hz]using this
end
section
variable {T:dv} {N:Nat} {e:Env} {o:Oper} {a:Act} {w:World} {k:SV->Qx}
def aX {T:dv}{t:Nat}{d:TypeDesc}(h:T.und t=some d)(w:World):(underlying t).run T.P w= .ok d w:=Pu (T.und_ok _ _ h) w
def bB {T:dv}{t:Nat}{z:Value}{s b:Nat}(h:T.inf t=some (z,s,b))(w:World):
  (sizeOf t).run T.P w= .ok s w/\(zeroValue t).run T.P w= .ok z w:=by
 obtain⟨i,hi,G,H,hb⟩:=T.inf_ok _ _ _ _ h;constructor
 ·simp [sizeOf,typeInfo,hi,H]
 ·simp [zeroValue,typeInfo,hi,G]
def pa {t:Nat}(h:single (T.und t)=true)(w:World):(isAgg t).run T.P w= .ok false w:=by
 cases hu:T.und t with
 | none=>rw [hu]at h;cases h
 | some d=>
  unfold isAgg;rw [Nl,aX hu,M9];rw [hu]at h;cases d<;>first | (cases h;done) | simp
def bR (P:Program)(o:Oper)(a:Act)(k:SV->Prop):Prop:=∃y,k y/\∀w,(execOp a.eval o).run P w= .ok (.value y.val) w
def bR.mk {P:Program}{k:SV->Prop}(y:SV)(hk:k y)(h:∀w,(execOp a.eval o).run P w= .ok (.value y.val) w):bR P o a k:=⟨y,hk,h⟩
def vA {k:SV->Prop}{x:Operand}(H:aC N e a)(G:o.op= .move x\/o.op= .assign x){y:SV}(J:ev e x=some y)(h:k y):bR T.P o a k:=by
 refine bR.mk y h λw=>?_
 rw [<-aD H J];rcases G with G | G<;>simp [execOp,G]
def wk {k:SV->Prop}{c x y:Operand}{b:Bool}{z:SV}(G:aC N e a)(H:o.op= .pick c x y)(J:a.eval c= .bool b)
  (Z:ev e (if b then x else y)=some z) (h:k z):bR T.P o a k:=by
 refine bR.mk z h λw=>?_
 rw [<-aD G Z];simp only [execOp,H,J,asBool,Nl,Nn,M9];cases b<;>simp
def dc {k:SV->Prop}{op:BinOp}{t Z:Nat}{x y:Operand}{p q z:SV}(G:aC N e a)(ho:o.op= .binOp op t x y Z)(J:ev e x=some p)(hy:ev e y=some q)
  (H:∀b:Value,(match p.val,b with | .nilIface,.nilIface=>false | .agg _,.agg _=>false | _,_=>true)=true)
  (hr:∀w,(binOp op t p.val q.val).run T.P w= .ok z.val w) (h:k z):bR T.P o a k:=by
 refine bR.mk z h λw=>wz ho (eqGuard_plain ?_) ?_
 ·rw [aD G J];exact H _
 ·rw [aD G J,aD G hy];exact hr w
def BB {op:BinOp}{p q z:SV}(h:binT op p q=some z):∀b:Value,(match p.val,b with | .nilIface,.nilIface=>false | .agg _,.agg _=>false | _,_=>true)=true:=by
 refine vD p ?_ ?_ ?_ ?_<;>rintro y rfl<;>(unfold binT at h;split at h<;>simp_all)
def Bv {op:BinOp}{p q z:SV}{P:Prop}(h:binP op p q=some (P,z)):∀b:Value,(match p.val,b with | .nilIface,.nilIface=>false | .agg _,.agg _=>false | _,_=>true)=true:=by
 refine vD p ?_ ?_ ?_ ?_<;>rintro y rfl<;>(unfold binP at h;split at h<;>simp_all)
def oA {x:SV}{b:Bool}(h:LN x=some b):x.val= .bool b:=by
 cases x<;>simp [LN]at h<;>subst h<;>rfl
def Cm {x:SV}{n:Int}(h:L0 x=some n):∃kd,x.val= .int kd n:=by
 cases x<;>simp [L0]at h<;>subst h<;>exact⟨_,rfl⟩
def vF {x:SV}{b:Bool}(h:LN x=some b):∀b:Value,(match x.val,b with | .nilIface,.nilIface=>false | .agg _,.agg _=>false | _,_=>true)=true:=by
 intro c;rw [oA h]
def tG {t:Nat}(G:T.und t=some .bool)(p q:Bool):(binOp .eql t (.bool p) (.bool q)).run T.P w= .ok (.bool (p==q)) w/\(binOp .neq t (.bool p) (.bool q)).run T.P w= .ok (.bool (!(p==q))) w:=by
 have h:(Op.equal t (.bool p) (.bool q)).run T.P w= .ok (p==q) w:=by
  show(Op.equalIn Op.maxDepth t _ _).run T.P w=_;have:Op.maxDepth=(Op.maxDepth - 1)+1:=rfl;rw [this];simp only [Op.equalIn,Nl,aX G,M9,Nn]
 constructor<;>simp only [binOp,Nl,h,M9,Nn]
def I7 {x y:SV}(h:JY x=some y):(Op.unary .not x.val).run T.P w= .ok y.val w:=by
 cases x<;>simp [JY]at h<;>subst h<;>rfl
def DT {n:Int}(G:0<=n)(h:n< 128):Utf8.encode n=ay [UInt8.ofNat n.toNat]:=by
 obtain⟨m,rfl⟩:=Int.eq_ofNat_of_zero_le G;have hm:m< 128:=by omega
 clear h G;revert m;decide+kernel
def Iu {t:Nat}{l:aJ}{n:Int}(H:T.und t=some .string)(J:0<=n)(h1:n< l.length):(Instr.index t (.string (ay l)) (.int .i64 n)).run T.P w= .ok (.int .u8 (bt l n.toNat).toNat) w:=by
 have G:n.toNat< l.length:=by omega
 have Z:(ay l)[n.toNat]?=some (bt l n.toNat):=by
  rw [getElem?_pos (ay l) n.toNat (by rw [fA];exact G)]
  congr 1
  show l.toArray[n.toNat]'_=_;simp only [bt,List.getD,M6 G,Option.getD_some];rfl
 simp only [Instr.index,asIntOf,Nl,Nn,M9,aX H,NO J,Z]
def D7 {x:Int}{y:Nat}{code:BoundsCode}(G:0<=x)(h1:x<=y):(Instr.sliceBound (.int .i64 x) y code).run T.P w= .ok x.toNat w:=by
 simp only [Instr.sliceBound,asIntOf,Nl,Nn,M9,NO (And.intro G h1)]
def nq (x:Option Int):Option Value:=x.map (Value.int .i64)
def sQ {isS:Bool}{len cap:Nat}{lo hi:Option Int}(G:0<=lo.getD 0)(h1:lo.getD 0<=hi.getD len)(H:hi.getD len<=cap):
  (Instr.sliceBounds isS len cap (nq lo) (nq hi) none).run T.P w= .ok ((lo.getD 0).toNat,(hi.getD len).toNat,cap) w:=by
 have hb:∀(x:Int) (y:Nat) (c:BoundsCode),0<=x->x<=y->(Instr.sliceBound (.int .i64 x) y c).run T.P w= .ok x.toNat w:=λx y c a b=>D7 a b
 cases lo<;>cases hi<;>simp only [nq,Qi,OP,Option.getD_none,Option.getD_some]at*
 ·simp [Instr.sliceBounds]
 ·simp [Instr.sliceBounds,hb _ _ _ (by omega) H]
 ·simp [Instr.sliceBounds,hb _ _ _ G h1]
 ·rename_i x y;simp [Instr.sliceBounds,hb _ _ _ (by omega:0<=y) H,hb x y.toNat _ G (by omega)]
def xi {t:Nat}{l:aJ}{lo hi:Option Int}(G:T.und t=some .string)(H:0<=lo.getD 0)(h1:lo.getD 0<=hi.getD l.length)(J:hi.getD l.length<=l.length):
  (Instr.sliceAt t (.string (ay l)) (nq lo) (nq hi) none).run T.P w= .ok (.string (ay ((l.take (hi.getD l.length).toNat).drop (lo.getD 0).toNat))) w:=by
 simp only [Instr.sliceAt,Instr.slice,Nl,aX G,M9,Option.isSome_none,PQ,Qm,fA,sQ H h1 J,Nn,y8]
def qm {t el sz len cap b:Nat}{z:Value}{G:Option Addr}{lo hi:Option Int}(J:T.und t=some (.slice el))(H:T.inf el=some (z,sz,b))(Z:0<=lo.getD 0)(h1:lo.getD 0<=hi.getD len)(h2:hi.getD len<=cap):
  (Instr.sliceAt t (.slice G len cap) (nq lo) (nq hi) none).run T.P w=
   .ok (.slice (if cap=(lo.getD 0).toNat then G else G.map (·.add ((lo.getD 0).toNat* sz))) ((hi.getD len).toNat - (lo.getD 0).toNat) (cap - (lo.getD 0).toNat)) w:=by
 simp only [Instr.sliceAt,Instr.slice,Nl,aX J,M9,sQ Z h1 h2,Nn,(bB H w).1]
def add_plain (b off n:Nat):(⟨b,off,none⟩:Addr).add n=⟨b,off+n,none⟩:=by
 unfold Addr.add;split
 ·rename_i h;subst h;rfl
 ·rfl
def Ep {s b off f sz G:Nat}{fs:Array Field}{fd:Field}{z:Value}(H:T.und s=some (.struct fs))(J:fs[f]?=some fd)(hi:T.inf fd.type=some (z,sz,G))(Z:sz≠0):
  (Instr.fieldAt s (.pointer (some ⟨b,off,none⟩)) f).run T.P w= .ok (.pointer (some ⟨b,off+fd.offset,none⟩)) w:=by
 simp only [Instr.fieldAt,Nl,aX H,M9,J,Instr.sureAddr,Nn,fieldPlace,(bB hi w).1,Nt Z,add_plain]
def D8 {t el sz G b off len cap:Nat}{z:Value}{kd:IntKind}{n:Int}(H:T.und t=some (.slice el))(hi:T.inf el=some (z,sz,G))(J:0<=n)(h1:n< len):
  (Instr.indexAt t (.slice (some ⟨b,off,none⟩) len cap) (.int kd n)).run T.P w= .ok (.pointer (some ⟨b,off+n.toNat* sz,none⟩)) w:=by
 simp only [Instr.indexAt,asIntOf,Nl,Nn,M9,aX H,NO (And.intro J h1),(bB hi w).1,add_plain]
def DQ {t el sz G b off len:Nat}{z:Value}{kd:IntKind}{n:Int}(H:T.und t=some (.array len el))(hi:T.inf el=some (z,sz,G))(J:0<=n)(h1:n< len):
  (Instr.indexAt t (.pointer (some ⟨b,off,none⟩)) (.int kd n)).run T.P w= .ok (.pointer (some ⟨b,off+n.toNat* sz,none⟩)) w:=by
 simp only [Instr.indexAt,asIntOf,Nl,Nn,M9,aX H,Instr.sureAddr,NO (And.intro J h1),(bB hi w).1,add_plain]
def pC {t b off:Nat}{v:Value}(G:single (T.und t)=true)(H:w.cell? ⟨b,off,none⟩=some v):
  (Instr.loadAt t (.pointer (some ⟨b,off,none⟩))).run T.P w= .ok v w:=by
 simp only [Instr.loadAt,Instr.sureAddr,Nl,Nn,M9,loadVar,pa G];simp [load,Sem.run,H]
def pX {b off:Nat}:∀(n i:Nat) (cs:List Value) (acc:Array Value),cs.length=i+n->(∀j,j< i+n->w.cell? ⟨b,off+j,none⟩=cs[j]?)->acc.toList=cs.take i->
  (loadCellsFrom ⟨b,off,none⟩ i n acc).run T.P w= .ok cs.toArray w
 | 0,i,cs,acc,H,G,ha=>by
  simp only [loadCellsFrom,Nn];rw [PS (by omega)]at ha;rw [<-ha]
 | n+1,i,cs,acc,H,G,ha=>by
  have hi:i< cs.length:=by omega
  have h1:=G i (by omega);rw [M6 hi]at h1;have:(load ((⟨b,off,none⟩:Addr).add i)).run T.P w= .ok cs[i] w:=by
   rw [add_plain];simp [load,Sem.run,h1]
  simp only [loadCellsFrom,Nl,this,M9];exact pX n (i+1) cs _ (by omega) (λj J=>G j (by omega)) (by rw [P0,ha,Ng hi])
def iK {t:Nat}(h:yB (T.und t)=true)(w:World):(isAgg t).run T.P w= .ok true w:=by
 cases hu:T.und t with
 | none=>rw [hu]at h;cases h
 | some d=>
  unfold isAgg;rw [Nl,aX hu,M9];rw [hu]at h;cases d<;>first | (cases h;done) | simp
def iJ {t b off n G:Nat}{z:Value}{cs:List Value}(H:(isAgg t).run T.P w= .ok true w)(hi:T.inf t=some (z,n,G))(Z:cs.length=n)
  (J:∀j,j< n->w.cell? ⟨b,off+j,none⟩=cs[j]?):(Instr.loadAt t (.pointer (some ⟨b,off,none⟩))).run T.P w= .ok (.agg cs.toArray) w:=by
 simp only [Instr.loadAt,Instr.sureAddr,Nl,Nn,M9,loadVar,H,(bB hi w).1,O9,loadCells];rw [pX n 0 cs #[] (by omega) (λj hj=>J j (by omega)) (by simp)];rfl
def Bp {t b off Z:Nat}{z u v:Value}(hi:T.inf t=some (z,1,Z))(J:oneV v=true)(hc:w.cell? ⟨b,off,none⟩=some u)(hf:w.frozen? ⟨b,off,none⟩=false):
  (Instr.storeAt t (.pointer (some ⟨b,off,none⟩)) v).run T.P w= .ok () (w.setCell ⟨b,off,none⟩ v):=by
 have G:v.cells=#[v]:=by cases v<;>first | rfl | (cases J;done)
 have H:(store (⟨b,off,none⟩:Addr) v).run T.P w= .ok () (w.setCell ⟨b,off,none⟩ v):=by
  cases v<;>first | (cases J;done) | (simp [store,Sem.run,hc,hf])
 simp only [Instr.storeAt,Instr.sureAddr,Nl,Nn,M9,storeVar,(bB hi w).1,G];simp only [List.size_toArray,M0,Np,ne_eq,PZ,Qm,storeCells,Nl,add_plain,PC,H,M9,Nn]
def DY {el:Nat}{z:Value}{s b:Nat}(hi:T.inf el=some (z,s,b))(v:Value):
  (Instr.alloc el true (.tuple #[])).run T.P w= .ok (.pointer (some ⟨w.heap.size,0,none⟩)) (w.alloc (.cells z.cells el)):=by
 simp only [Instr.alloc,Nl,(bB hi w).2,M9,newVar,newRow,newObj,Sem.run,Nn,World.alloc]
def xm {el:Nat}(v:Value):(Instr.box el v).run T.P w= .ok (.pointer (some ⟨w.heap.size,0,none⟩)) (w.alloc (.cells v.cells el)):=by
 simp only [Instr.box,Nl,newVar,newRow,newObj,Sem.run,M9,Nn,World.alloc]
def Gf {t ty:Nat}{l:aJ}(G:T.und t=some .string):(Builtin.len_ #[t] ty #[.string (ay l)]).run T.P w= .ok (.int .i64 l.length) w:=by
 simp [Builtin.len_,aX G,goInt,fA]
def Hr {t ty el n cap:Nat}{G:Option Addr}(H:T.und t=some (.slice el)):(Builtin.len_ #[t] ty #[.slice G n cap]).run T.P w= .ok (.int .i64 n) w:=by
 simp [Builtin.len_,aX H,goInt]
end
section
variable {T:dv} {N:Nat} {e:Env} {o:Oper} {a:Act} {w:World} {k:SV->Qx}
def okC.get {z:SV}{p:Prop}(h:okC z p):z.val.cells=(cellsOf z).toArray/\p:=by
 cases z with
 | v x=>obtain⟨h1,G⟩:=h;refine⟨?_,G⟩;cases x<;>first | rfl | (cases h1;done)
 | tup xs=>exact h.elim
 | un=>exact h.elim
 | _=>exact⟨rfl,h⟩
def okAllC.get:∀{ps:List (Nat×SV)} {p:Prop},okAllC ps p->(∀x,x∈ps->x.2.val.cells=(cellsOf x.2).toArray)/\p
 | [],p,h=>⟨λx G=>(by cases G),h⟩
 | q::ps,p,h=>by
  obtain⟨h1,H⟩:=okC.get h;obtain⟨J,h4⟩:=okAllC.get H;refine⟨λx G=>?_,h4⟩;cases G with
  | head=>exact h1
  | tail _ G=>exact J x G
def AB (z:Value):(svOf z).val=z:=by
 unfold svOf;split
 ·rfl
 ·split
  ·rename_i G;exact(N9 (Value.int .u8) (G9 G)).symm
  ·rfl
 ·split
  ·rename_i G;exact(N9 (Value.int .u32) (C7 G)).symm
  ·rfl
 ·rename_i s;show Value.string (ay s.data.toList)=_;rw [<-JW]
 ·rfl
 ·rfl
 ·rfl
def CellsAt.get {b:Nat}:∀{off:Nat} {xs:List SV},CellsAt w b off xs->∀j,j< xs.length->w.cell? ⟨b,off+j,none⟩=(SV.aM xs)[j]?
 | off,[],h,j,G=>by simp at G
 | off,x::xs,h,0,G=>by simpa [SV.aM]using h.1
 | off,x::xs,h,j+1,G=>by
  have :=CellsAt.get h.2 j (by simpa using G);rw [show off+(j+1)=off+1+j by omega,this];simp [SV.aM]
def gb:∀(l:List SV),(SV.aM l).length=l.length
 | []=>rfl
 | _::l=>by simp [SV.aM,gb l]
def ExL.get:∀{L:List Kd} {K:List SV->Prop},ExL L K->∃xs,xs.length=L.length/\K xs
 | [],K,h=>⟨[],rfl,h⟩
 | k::L,K,⟨t,h⟩=>by
  obtain⟨xs,h1,G⟩:=ExL.get h;exact⟨k.sv t::xs,by simp [h1],G⟩
def qF {b off G:Nat}{v:Value}(h:off≠G):(w.setCell ⟨b,off,none⟩ v).cell? ⟨b,G,none⟩=w.cell? ⟨b,G,none⟩:=by
 unfold World.cell? World.setCell;simp only [OM,O9];cases J:w.heap[b]? with
 | none=>rfl
 | some H=>
  cases H<;>simp [Array.getElem?_setIfInBounds,h]
def tT {b off:Nat}{v:Value}(x:Addr):(w.setCell ⟨b,off,none⟩ v).frozen? x=w.frozen? x:=Nv _ _ _ _
def nt {b:Nat}:∀(cs:List Value) (off i:Nat) (w:World),cs.all oneV=true->(∀j,j< cs.length->(∃u,w.cell? ⟨b,off+i+j,none⟩=some u)/\w.frozen? ⟨b,off+i+j,none⟩=false)->
  (storeCells (⟨b,off,none⟩:Addr) cs i).run T.P w= .ok () (World.setCells w b (off+i) cs)
 | [],off,i,w,_,_=>rfl
 | v::cs,off,i,w,G,J=>by
  simp only [Oj,M8]at G;obtain⟨⟨u,hu⟩,Z⟩:=J 0 (by simp);simp only [PC]at hu Z;have H:(store (⟨b,off+i,none⟩:Addr) v).run T.P w= .ok () (w.setCell ⟨b,off+i,none⟩ v):=by
   have :=G.1;cases v<;>first | (cases this;done) | (simp [store,Sem.run,hu,Z])
  simp only [storeCells,Nl,add_plain,H,M9,World.setCells];rw [nt cs off (i+1) _ G.2 λj hj=>?_]
  ·rfl
  ·have :=J (j+1) (by simpa using hj);rw [show off+i+(j+1)=off+(i+1)+j by omega]at this;rw [qF (by omega),tT];exact this
def zY {t b off n H:Nat}{z:Value}{cs:List Value}(hi:T.inf t=some (z,n,H))(G:cs.length=n)(J:cs.all oneV=true)
  (Z:∀j,j< n->(∃u,w.cell? ⟨b,off+j,none⟩=some u)/\w.frozen? ⟨b,off+j,none⟩=false):
  (Instr.storeAt t (.pointer (some ⟨b,off,none⟩)) (.agg cs.toArray)).run T.P w= .ok () (World.setCells w b off cs):=by
 have h1:(Value.agg cs.toArray).cells=cs.toArray:=rfl;simp only [Instr.storeAt,Instr.sureAddr,Nl,Nn,M9,storeVar,(bB hi w).1,h1];rw [Nt (by simp [G])];exact nt cs off 0 w J (by simpa [G]using Z)
def sV {x:SV}:∀(l:List SV) (j:Nat),SV.aM (l.set j x)=(SV.aM l).set j x.val
 | [],_=>rfl
 | y::l,0=>rfl
 | y::l,j+1=>by simp [SV.aM,sV l j]
def CQ {place:Nat->Option (Nat×Nat)}{fs:Array Field}(hp:∀(i:Nat) (fd:Field) sz z b,fs[i]?=some fd->T.inf fd.type=some (z,sz,b)->place i=some (fd.offset,sz)):
  ∀(ps:List (Nat×SV)) (zs xs:List SV),(∀x,x∈ps->x.2.val.cells=(cellsOf x.2).toArray)->buildAg T fs zs ps=some xs->
   Instr.fill place (SV.aM zs).toArray (ps.map λp=>(p.1,p.2.val))=some (SV.aM xs).toArray
 | [],zs,xs,_,h=>by cases h;rfl
 | (i,x)::r,zs,xs,H,h=>by
  unfold buildAg at h;split at h
  ·rename_i fd G;split at h
   ·rename_i z b hi hc;split at h
    ·rename_i δ J;rw [pw,dL]at G;obtain⟨Z,rfl⟩:=wI J;have J:fd.offset< zs.length:=Z;have G:fs[i]?=some fd:=G;have hi:T.inf fd.type=some (z,1,b):=nj hi;have ih:=CQ hp r _ xs (λy hy=>H y (Nh _ hy)) h;have γ:x.val.cells=#[x.val]:=by
      rw [H (i,x) (NP)];cases x<;>first | rfl | (cases hc;done)
     simp only [NI,Instr.fill,hp i fd 1 z b G hi,γ];rw [Nt (by simp [gb];omega)];have β:(#[x.val].zipIdx.foldl (λcs (c,j)=>cs.setIfInBounds (fd.offset+j) c) (SV.aM zs).toArray)=(SV.aM (zs.set fd.offset x)).toArray:=by
      rw [sV];simp
     rw [β];exact ih
    ·cases h
   ·cases h
  ·cases h
def sA (G:aC N e a):∀{l:List (Nat×Operand)} {ps:List (Nat×SV)},evp e l=some ps->l.map (λp=>(p.1,a.eval p.2))=ps.map (λp=>(p.1,p.2.val))
 | [],ps,h=>by cases h;rfl
 | (i,x)::l,ps,h=>by
  unfold evp at h;split at h
  ·rename_i y J h1 H;cases h;simp only [NI,aD G h1,sA G H]
  ·cases h
def Bj {fs:Array Field}{w:World}(H:∀f∈fs.toList,∃z s b,T.inf f.type=some (z,s,b)):
  ∃pl:Array (Nat×Nat),(fs.mapM (m:=Sem) λf=>do pure (f.offset,<-sizeOf f.type)).run T.P w= .ok pl w/\
   ∀(i:Nat) (fd:Field) sz z b,fs[i]?=some fd->T.inf fd.type=some (z,sz,b)->pl[i]?=some (fd.offset,sz):=by
 obtain⟨l⟩:=fs;have key:∀l:List Field,(∀f∈l,∃z s b,T.inf f.type=some (z,s,b))->∃pl:List (Nat×Nat),(l.mapM (m:=Sem) λf=>do pure (f.offset,<-sizeOf f.type)).run T.P w= .ok pl w/\
   ∀(i:Nat) (fd:Field) sz z b,l[i]?=some fd->T.inf fd.type=some (z,sz,b)->pl[i]?=some (fd.offset,sz):=by
  intro l
  induction l with
  | nil=>intro _;exact⟨[],by simp,λi fd sz z b h=>by simp at h⟩
  | cons f l ih=>
   intro h;obtain⟨z,s,b,Z⟩:=h f (NP);obtain⟨pl,h1,J⟩:=ih λg hg=>h g (Nh _ hg)
   refine⟨(f.offset,s)::pl,?_,?_⟩
   ·simp only [List.mapM_cons,Nl,(bB Z w).1,M9,Nn,h1]
   ·intro i fd sz z' b' hi G;cases i with
    | zero=>simp at hi;subst hi;rw [Z]at G;cases G;rfl
    | succ i=>simpa using J i fd sz z' b' (by simpa using hi) G
 obtain⟨pl,h1,J⟩:=key l H;refine⟨pl.toArray,?_,by simpa using J⟩;rw [List.mapM_toArray];simp only [Sem.run_map,h1];rfl
def En {t s b:Nat}{fs:Array Field}{zs:Array Value}{ps:List (Nat×SV)}{xs:List SV}{parts:Array (Nat×Value)}(ht:T.und t=some (.struct fs))(hi:T.inf t=some (.agg zs,s,b))
  (H:∀f∈fs.toList,∃z s b,T.inf f.type=some (z,s,b)) (G:parts.toList=ps.map λp=>(p.1,p.2.val)) (J:∀x,x∈ps->x.2.val.cells=(cellsOf x.2).toArray) (hb:buildAg T fs (mapR svOf zs.toList) ps=some xs):
  (Instr.build t parts).run T.P w= .ok (.agg (SV.aM xs).toArray) w:=by
 obtain⟨pl,h1,h2⟩:=Bj (w:=w) H;have hz:(SV.aM (mapR svOf zs.toList)).toArray=zs:=by
  have:∀l:List Value,SV.aM (mapR svOf l)=l:=by
   intro l;induction l with
   | nil=>rfl
   | cons v l ih=>simp only [mapR,SV.aM,AB,ih]
  rw [this]
 have hf:=CQ (place:=(pl[·]?)) h2 ps _ xs J hb;rw [hz]at hf;have Z:(fs.mapM (m:=Sem) λf=>do let s<-sizeOf f.type;pure (f.offset,s)).run T.P w= .ok pl w:=h1;simp only [Instr.build,Nl,(bB hi w).2,M9,aX ht,Value.cells];rw [Z];simp only [M9,G,hf,Nn]
def zZ:∀(vs:List Value) (k o:Nat) (cur:List Value),o+k+vs.length<=cur.length->
  (vs.zipIdx k).foldl (λcs (p:Value×Nat)=>cs.setIfInBounds (o+p.2) p.1) cur.toArray=(cur.take (o+k)++vs++cur.drop (o+k+vs.length)).toArray
 | [],k,o,cur,h=>by simp
 | v::vs,k,o,cur,h=>by
  simp only [M0]at h;simp only [List.zipIdx_cons,List.foldl_cons,List.setIfInBounds_toArray];rw [zZ vs (k+1) o _ (by simp;omega)]
  congr 1
  have G:o+k< cur.length:=by omega
  rw [show o+(k+1)=o+k+1 by omega,Ng (by simp;omega),PK (Nc _),List.drop_set_of_lt (by omega)];simp [show o+k+1+vs.length=o+k+(vs.length+1) by omega]
def zf {sz:Nat}:∀(ps:List (Nat×SV)) (zs cs:List Value),(∀x,x∈ps->x.2.val.cells=(cellsOf x.2).toArray)->buildRow sz zs ps=some cs->
   Instr.fill (λi=>some (i* sz,sz)) zs.toArray (ps.map λp=>(p.1,p.2.val))=some cs.toArray
 | [],zs,cs,_,h=>by cases h;rfl
 | (i,x)::r,zs,cs,H,h=>by
  unfold buildRow at h;split at h
  ·rename_i Z β G;have G:BM zs (i* sz) (cellsOf x)=some Z:=G;obtain⟨h3,rfl⟩:=wM G;have hc:(cellsOf x).length=sz:=ze β;have ih:=zf r _ cs (λy hy=>H y (Nh _ hy)) h;have J:=H (i,x) (NP);simp only at J;simp only [NI,Instr.fill,J];rw [Nt (by simp;omega)];rw [<-ih]
   congr 1
   have :=zZ (cellsOf x) 0 (i* sz) zs (by omega);simp only [PC]at this;rw [<-this,<-Array.foldl_toList,Array.toList_zipIdx]
  ·cases h
end
section
variable {T:dv} {N:Nat} {e:Env} {o:Oper} {a:Act} {w:World} {k:SV->Qx}
def Et (z:Array Value)(len sz:Nat)(J:z.size=sz)(h0:0< sz):((Array.range (len* sz)).map (z[· % z.size]!))=(List.replicate len z.toList).flatten.toArray:=by
 apply Ou.1;simp only [On,Array.toList_range];apply Ps
 ·simp [J]
 ·intro i h1 h2;simp only [Nq,PD]at h1;have hm:i % z.size< z.size:=Nat.mod_lt _ (by omega);simp only [Ov,List.getElem_range];rw [getElem!_pos z _ hm];have key:∀(len i:Nat) (h:i< len* z.size) (Z:i< (List.replicate len z.toList).flatten.length),(List.replicate len z.toList).flatten[i]=z[i % z.size]'(Nat.mod_lt _ (by omega)):=by
   intro len
   induction len with
   | zero=>intro i h;omega
   | succ len ih=>
    intro i h Z;simp only [List.replicate_succ,List.flatten_cons];rw [List.getElem_append];split
    ·rename_i G;simp only [Array.length_toList]at G;simp only [Array.getElem_toList]
     congr 1
     exact(Nat.mod_eq_of_lt G).symm
    ·rename_i H;simp only [Array.length_toList]at H;simp only [Array.length_toList];rw [ih (i - z.size) (by rw [Nat.add_mul]at h;omega)]
     congr 1
     rw [<-Nat.mod_eq_sub_mod (by omega)]
  exact(key len i (by rw [J];exact h1) _).symm
def B5 {t el sz len b:Nat}{z:Value}{ps:List (Nat×SV)}{cs:List Value}{parts:Array (Nat×Value)}(ht:T.und t=some (.slice el))(hi:T.inf el=some (z,sz,b))(hz:z.cells.size=sz)(h0:0< sz)(hl:len* sz<=16777216)
  (G:parts.toList=ps.map λp=>(p.1,p.2.val)) (H:∀x,x∈ps->x.2.val.cells=(cellsOf x.2).toArray) (hb:buildRow sz (List.replicate len z.cells.toList).flatten ps=some cs):
  (Instr.buildSlice t len parts).run T.P w= .ok (.slice (some ⟨w.heap.size,0,none⟩) len len) (w.alloc (.cells cs.toArray el)):=by
 have J:=zf ps _ cs H hb;simp only [Instr.buildSlice,Nl,aX ht,M9,(bB hi w).1];rw [Nt (by omega)];by_cases Z:len* sz=0
 ·have hlen:len=0:=by
   rcases Pv len with h | h
   ·exact h
   ·have :=Nat.mul_pos h h0;omega
  subst hlen;simp only [Nat.zero_mul,O9,Nn,M9,Nl];have:((Array.range 0).map ((#[]:Array Value)[· % (#[]:Array Value).size]!))=#[]:=by simp
  simp only [List.replicate_zero,List.flatten_nil]at J;simp only [this,G,J,Nl,newRow,newObj,Sem.run,M9,Nn,World.alloc]
 ·simp only [Z,Qm,Nl,(bB hi w).2,M9,Nn];rw [Et _ _ _ hz h0];simp only [G,J,Nl,newRow,newObj,Sem.run,M9,Nn,World.alloc]
def rA {t el:Nat}(G:T.und t=some (.pointer el))(q:Option Addr):
  (binOp .eql t (.pointer q) (.pointer none)).run T.P w= .ok (.bool q.isNone) w/\(binOp .neq t (.pointer q) (.pointer none)).run T.P w= .ok (.bool (!q.isNone)) w:=by
 have h:(Op.equal t (.pointer q) (.pointer none)).run T.P w= .ok q.isNone w:=by
  show(Op.equalIn Op.maxDepth t _ _).run T.P w=_;have:Op.maxDepth=(Op.maxDepth - 1)+1:=rfl;rw [this];cases q<;>simp only [Op.equalIn,Nl,aX G,M9,Nn]<;>rfl
 constructor<;>simp only [binOp,Nl,h,M9,Nn]
def yq {src dst el:Nat}{l:aJ}(G:T.und src=some .string)(hd:T.und dst=some (.slice el))(he:T.und el=some (.int .u8)):
  ∃cap w',(convert src dst (.string (ay l))).run T.P w= .ok (.slice (some ⟨w.heap.size,0,none⟩) l.length cap) w'/\xN w' el w.heap.size l/\w.grownBy w' none:=by
 have hr:=Go.Lib.run_convert_string_bytes (P:=T.P) w src dst el (ay l) (T.und_ok _ _ G) (T.und_ok _ _ hd) (T.und_ok _ _ he);rw [fA]at hr;refine⟨_,_,hr,⟨_,_,_,Go.Lib.bytesWorld_at_new w el (ay l),?_,?_,Nc _⟩,⟨rfl,rfl,rfl,?_,λj H _=>Go.Lib.bytesWorld_at_old w el (ay l) j H⟩⟩
 ·simp [Go.Lib.bytesCells,c8,ay,List.take_append]
 ·simp [Go.Lib.bytesCells,ay,ByteArray.size]
 ·rw [Go.Lib.bytesWorld_size];omega
def ub {b off n c:Nat}{l:aJ}(Z:l.length=n)(hc:∀j x,l[j]?=some x->w.cell? ⟨b,off+j,none⟩=some (.int .u8 x.toNat)):
  (Conv.bytesToString (.slice (some ⟨b,off,none⟩) n c)).run T.P w= .ok (.string (ay l)) w:=by
 have G:(loadCells (⟨b,off,none⟩:Addr) n).run T.P w= .ok (c8 l).toArray w:=by
  unfold loadCells;refine pX n 0 (c8 l) #[] (by simp [c8,Z]) (λj hj=>?_) (by simp);have J:j< l.length:=by omega
  rw [hc j l[j] (M6 J)];simp [c8,J]
 have H:∀(l:aJ) (s:ByteArray),(l.map λc=>((c.toNat:Int))).foldl (λr n=>r.push (UInt8.ofNat n.toNat)) s=s++ay l:=by
  intro l
  induction l with
  | nil=>intro s;apply ByteArray.ext;simp [ay]
  | cons x l ih=>
   intro s;simp only [NI,List.foldl_cons];rw [ih];apply ByteArray.ext;simp [ay]
 have hm:(c8 l)=(l.map λc=>((c.toNat:Int))).map (Value.int .u8):=by simp [c8]
 have :=run_bytesToString (P:=T.P) w ⟨b,off,none⟩ n c (l.map λc=>((c.toNat:Int))) (by rw [G,hm]);rw [this,H]
 congr 2
def AD {l:List Value}(h:l.all oneV=true):∀u∈l,u.oneCell'=true:=by
 intro u hu;have :=OV.1 h u hu;cases u<;>first | rfl | (cases this;done)
def yJ {P:Program}{w:World}(base:Nat)(t ty e:TypeId)(i:TypeInfo)(z:Value)(ht:P.underlying t=some (.slice e))(hi:P.info? e=some i)(hz:i.zero=some z)
  (v:Value) (n:Nat) (xs:List Value) (J:w.ownsRow base e i.size v n xs) (a:Addr) (m c:Nat) (news:List Value) (hl:news.length=m* i.size) (G:∀j u,news[j]?=some u->w.cell? (a.add j)=some u)
  (h1:∀u∈news,u.oneCell'=true) (δ:n+m<=maxLen) (H:(n+m)* i.bytes<=140737488355328) {v':Value} {w':World} (hr:(Builtin.append_ #[t,t] ty #[v,.slice (some a) m c]).run P w= .ok v' w'):
  ∀b,v'.ownBlock=some b->v.ownBlock=some b\/w.heap.size<=b:=by
 have γ:n+m<=9223372036854775807:=by simp only [maxLen]at δ;omega
 intro b hb;rcases J.2 with⟨rfl,rfl⟩ | ⟨g,cap,cur,rfl,_,hg,η,θ,ε,ζ⟩
 ·by_cases hm:m=0
  ·subst hm;have hn:news=[]:=NF (by simpa using hl);subst hn;have e1:(Builtin.append_ #[t,t] ty #[.slice none 0 0,.slice (some a) 0 c]).run P w= .ok (.slice none 0 0) w:=by
    simp [Builtin.append_,Pu ht,sizeOf,typeInfo,hi,Builtin.lenOf,Builtin.firstCells,loadCells,loadCellsFrom]
   rw [e1]at hr;cases hr;cases hb
  ·have e1:=run_append_nil (P:=P) w t ty e i z ht hi hz a m c news hl G (by omega) (by omega) (by simp only [NJ]at H;omega);rw [e1]at hr;cases hr;right;simp only [Value.ownBlock,Ow]at hb;omega
 ·by_cases Z:n+m<=cap
  ·have β:n* i.size+news.length<=cur.size:=by rw [hl,ε,<-Nat.add_mul];exact Nat.mul_le_mul_right _ Z
   have e1:=run_append_room (P:=P) w t ty e i ht hi g n cap cur hg a m c news hl G h1 Z β;rw [e1]at hr;cases hr;left;exact hb
  ·have holds:∀j u,xs[j]?=some u->w.cell? ((⟨g,0,none⟩:Addr).add j)=some u:=J.cells (g:=g) rfl;have e1:=run_append_grow (P:=P) w t ty e i z ht hi hz ⟨g,0,none⟩ n cap xs J.1 holds a m c news hl G (by omega) (by omega) (growslice_fits (by omega) H);rw [e1]at hr;cases hr;right;simp only [Value.ownBlock,Ow]at hb;omega
def BQ {t el sz by_:Nat}{z s x:Value}{ty:Nat}(ht:T.und t=some (.slice el))(hi:T.inf el=some (z,sz,by_))(hz:z.cells.size=sz)(h0:0< sz)(h:tY el sz by_ s x w k):
  ∃v w',(Builtin.append_ #[t,t] ty #[s,x]).run T.P w= .ok v w'/\k (.v v) w':=by
 obtain⟨base,n,m,xs,news,G,hb,⟨hl,h1,J⟩,⟨h2,h3⟩,hk⟩:=h;obtain⟨i,H,Z,β,γ⟩:=T.inf_ok _ _ _ _ hi;rcases J with⟨rfl,rfl⟩ | ⟨b,off,c,rfl,hc⟩
 ·have hn:news=[]:=NF (by simpa using hl);subst hn;refine⟨s,w,run_append_owned_none (P:=T.P) (w:=w) base t ty el i sz (T.und_ok _ _ ht) H s n xs G,?_⟩;exact hk s w (by simpa using G) ⟨rfl,rfl,rfl,Nc _,λ _ _ _=>rfl⟩ λb hb=> .inl hb
 ·obtain⟨v,w',hr,ho,hg,_⟩:=run_append_own (P:=T.P) w base t ty el i z sz by_ (T.und_ok _ _ ht) H Z β γ hz h0 s n xs G ⟨b,off,none⟩ m c news hl
   (λj u hu=>by rw [add_plain];exact hc j u hu) (AD h1) h2 h3 hb
  refine⟨v,w',hr,hk v w' ho hg ?_⟩;subst β γ;exact yJ base t ty el i z (T.und_ok _ _ ht) H Z s n xs G ⟨b,off,none⟩ m c news hl (λj u hu=>by rw [add_plain];exact hc j u hu) (AD h1) h2 h3 hr
def HA {p q:Int}{ts:Array Nat}{ty:Nat}:(Builtin.max_ ts ty #[.int .i64 p,.int .i64 q]).run T.P w= .ok (.int .i64 (if q> p then q else p)) w:=by
 simp [Builtin.max_,Builtin.max2]
def Iy {p q:Int}{ts:Array Nat}{ty:Nat}:(Builtin.min_ ts ty #[.int .i64 p,.int .i64 q]).run T.P w= .ok (.int .i64 (if q< p then q else p)) w:=by
 simp [Builtin.min_,Builtin.min2]
def Hg {p q:aJ}{ts:Array Nat}{ty:Nat}:(Builtin.max_ ts ty #[.string (ay p),.string (ay q)]).run T.P w= .ok (.string (ay (if(!Op.bytesLess p q)then p else q))) w:=by
 simp only [Builtin.max_,List.foldlM_cons,List.foldlM_nil,Builtin.max2,Op.stringOp,Nl,Nn,M9,asBool,mV];split<;>rfl
def Fu {p q:aJ}{ts:Array Nat}{ty:Nat}:(Builtin.min_ ts ty #[.string (ay p),.string (ay q)]).run T.P w= .ok (.string (ay (if(Op.bytesLess p q||decide (p=q))then p else q))) w:=by
 simp only [Builtin.min_,List.foldlM_cons,List.foldlM_nil,Builtin.min2,Op.stringOp,Nl,Nn,M9,asBool,mV,xy];split<;>rfl
def F9 {t:Nat}{c:Call}{val:Value}{xs:List SV}{L:List Kd}{f:Nat}{ca:List Value}(H:aC N e a)(ho:o.op= .call c)(hc:c.callee= .value (.tmp t))(ht:look e t=some (.v val))(hv:val= .func (.func f) #[] ca.toArray)(hf:T.fn f=true)(hx:evs e c.args.toList=some xs)
  (h:Calls T.P f (SV.aM xs++ca).toArray w (ax L (Cur.mk L λys w'=>k (kD ys) w'))):cC T.P o a w k:=by
 intro next Q hn;obtain⟨g,hg,hb,γ⟩:=T.fn_ok f hf;have G:c.args.map a.eval=(SV.aM xs).toArray:=by
  apply Ou.1;rw [On,gg H hx]
 have J:a.eval (.tmp t)= .func (.func f) #[] ca.toArray:=by rw [aD H (x:= .tmp t) ht];exact hv
 have Z:(execOp a.eval o).run T.P w= .ok (.enter f (SV.aM xs++ca).toArray) w:=by
  simp only [execOp,ho,resolve,hc,J,G,Deferred.ofValue,Nl,Nn,M9,invoke,callFunc,run_program,hg,hb,γ];simp
 unfold Oper.wp;rw [Z,Oper.upon_enter];refine Calls.mono h λe' w' hr=>?_
 obtain⟨ys,rfl,β,_⟩:=j5.get _ _ _ _ _ hr;obtain⟨zs,hz,hk⟩:=Cur.B3 _ _ _ _ β;have :=hn _ _ hk;simpa [jE hz]using this
end
section
variable {T:dv} {N:Nat} {e:Env} {o:Oper} {a:Act} {w:World} {k:SV->Qx}
def eU {el i:Nat}{cs:Array Value}{v:Value}(h:single (T.und el)=true)(G:cs[i]?=some v):(part el cs i).run T.P w= .ok v w:=by
 unfold part;simp only [Nl,pa h,M9,G];simp
def vZ {t el bb d:Nat}{z H J Z y1:Value}{G b1:Bool}(ht:T.und t=some (.array 2 el))(hi:T.inf el=some (z,1,bb))(hs:single (T.und el)=true)
  (h0:(Op.equalIn d el H Z).run T.P w= .ok G w) (h1:(Op.equalIn d el J y1).run T.P w= .ok b1 w):(Op.equalIn (d+1) t (.agg #[H,J]) (.agg #[Z,y1])).run T.P w= .ok (G&&b1) w:=by
 have p0:∀(a b:Value),(part el #[a,b] 0).run T.P w= .ok a w:=λa b=>eU hs rfl
 have p1:∀(a b:Value),(part el #[a,b] 1).run T.P w= .ok b w:=λa b=>eU hs rfl
 cases G<;>cases b1<;>simp [Op.equalIn,Nl,aX ht,(bB hi w).1,M9,Ph,List.range',p0,p1,h0,h1,Nn]
def DR {t el H d:Nat}{z J Z y0 y1:Value}(ht:T.und t=some (.array 2 el))(hi:T.inf el=some (z,1,H))(he:T.und el=some (.int .u32)):(Op.eqGuardIn (d+2) t (.agg #[J,Z]) (.agg #[y0,y1])).run T.P w= .ok false w:=by
 have G:single (T.und el)=true:=by rw [he]
 have p0:∀(a b:Value),(part el #[a,b] 0).run T.P w= .ok a w:=λa b=>eU G rfl
 have p1:∀(a b:Value),(part el #[a,b] 1).run T.P w= .ok b w:=λa b=>eU G rfl
 have g:∀x y:Value,(Op.eqGuardIn (d+1) el x y).run T.P w= .ok false w:=λx y=>by
  simp [Op.eqGuardIn,Nl,aX he,M9,Nn]
 unfold Op.eqGuardIn;simp [Nl,aX ht,(bB hi w).1,M9,Ph,List.range',p0,p1,g,Nn]
structure lB (T:dv)(kt:Nat)(d:TypeDesc):Prop where
 check:∀(w:World) (q:Value) (e:Bool),ky d q->(Instr.checkKey e 10000 kt q).run T.P w= .ok () w
 find:∀(w:World) (q:Value) (l:List MapEntry),ky d q->(∀x∈l,ky d x.key)->((Instr.findKey kt q l).run T.P w= .ok none w/\∀x∈l,x.key≠q)\/∃j x,(Instr.findKey kt q l).run T.P w= .ok (some (j,x.val)) w/\l[j]?=some x/\x.key=q
 stays:∀(w:World) (q:Value),ky d q->(Instr.keyThatStays q q).run T.P w= .ok q w
def mY {kt:Nat}{d:TypeDesc}(hd:T.und kt=some d)(H:∀q,ky d q↔MapKept.IsKey d q):lB T kt d:=by
 have G:=T.und_ok _ _ hd;refine⟨λw q e h=>MapKept.run_checkKey G ((H q).1 h) e 9999,λw q l h Z=>?_,λw q h=>MapKept.run_keyThatStays ((H q).1 h)⟩;rcases MapKept.findNow_spec ((H q).1 h) l 0 (λx hx=>(H _).1 (Z x hx))with⟨h1,J⟩ | ⟨j,x,h1,J,h3⟩
 ·exact .inl ⟨MapKept.run_findKey G h1,J⟩
 ·exact .inr ⟨j,x,by rw [NJ]at h1;exact MapKept.run_findKey G h1,J,h3⟩
def zK {kt e bb:Nat}{z:Value}(hd:T.und kt=some (.array 2 e))(he:T.und e=some .string)(hi:T.inf e=some (z,1,bb)){q:Value}(hq:ky (.array 2 e) q):∀(l:List MapEntry) (i:Nat),(∀x∈l,ky (.array 2 e) x.key)->
  ((Instr.findAsking kt q l i).run T.P w= .ok none w/\∀x∈l,x.key≠q)\/∃j x,(Instr.findAsking kt q l i).run T.P w= .ok (some (i+j,x.val)) w/\l[j]?=some x/\x.key=q
 | [],i,_=> .inl ⟨rfl,by simp⟩
 | x::l,i,h=>by
  obtain⟨_,a,b,rfl⟩:=hq;obtain⟨_,c,d,H⟩:=h x (by simp);have hs:single (T.und e)=true:=by rw [he]
  have es:∀(a b:ByteArray) (n:Nat),(Op.equalIn (n+1) e (.string a) (.string b)).run T.P w= .ok (a==b) w:=λa b n=>by
   simp only [Op.equalIn,Nl,aX he,M9,Nn]
  have eq:(Op.equal kt (.agg #[.string a,.string b]) x.key).run T.P w= .ok ((a==c)&&(b==d)) w:=by
   rw [H];exact vZ hd hi hs (es _ _ _) (es _ _ _)
  cases hb:((a==c)&&(b==d))with
  | true=>
   rw [hb]at eq;simp only [M8,P1]at hb;exact .inr ⟨0,x,by simp only [Instr.findAsking,Nl,eq,M9];rfl,rfl,by rw [H,hb.1,hb.2]⟩
  | false=>
   rw [hb]at eq;have J:x.key≠ .agg #[.string a,.string b]:=λe=>by
    rw [H]at e;simp only [Value.agg.injEq,Array.mk.injEq,OC,Value.string.injEq,Qv]at e;obtain⟨rfl,rfl⟩:=e;have:((c==c)&&(d==d))=true:=by rw [M8,P1,P1];exact⟨rfl,rfl⟩
    rw [this]at hb;cases hb
   have st:(Instr.findAsking kt (.agg #[.string a,.string b]) (x::l) i).run T.P w=(Instr.findAsking kt (.agg #[.string a,.string b]) l (i+1)).run T.P w:=by
    simp only [Instr.findAsking,Nl,eq,M9];rfl
   rcases zK hd he hi ⟨rfl,a,b,rfl⟩ l (i+1) (λy G=>h y (by simp [G]))with⟨h1,Z⟩ | ⟨j,y,h1,Z,h3⟩
   ·refine .inl ⟨st.trans h1,λy G=>?_⟩;rcases Nw.1 G with rfl | G
    ·exact J
    ·exact Z y G
   ·exact .inr ⟨j+1,y,by rw [st,h1,show i+1+j=i+(j+1) by omega],by simpa using Z,h3⟩
def Fh {kt e H:Nat}{z:Value}(hd:T.und kt=some (.array 2 e))(he:T.und e=some .string)(hi:T.inf e=some (z,1,H)):lB T kt (.array 2 e):=by
 have G:single (T.und e)=true:=by rw [he]
 refine⟨λw q em h=>?_,λw q l h J=>?_,λw q h=>?_⟩
 ·obtain⟨_,a,b,rfl⟩:=h;have Z:(part e #[.string a,.string b] 0).run T.P w= .ok (.string a) w:=eU G rfl;have p1:(part e #[.string a,.string b] 1).run T.P w= .ok (.string b) w:=eU G rfl;have g:∀a:ByteArray,(Instr.checkKey em 9999 e (.string a)).run T.P w= .ok () w:=λa=>by
   show(Instr.checkKey em (9998+1) e (.string a)).run T.P w=_;unfold Instr.checkKey;simp [Nl,aX he,M9]
  show(Instr.checkKey em (9999+1) kt _).run T.P w=_;unfold Instr.checkKey;simp [Nl,aX hd,(bB hi w).1,M9,Ph,List.range',Z,p1,g,Nn]
 ·have fa:(Instr.findKey kt q l).run T.P w=(Instr.findAsking kt q l 0).run T.P w:=by
   unfold Instr.findKey;simp only [Nl,aX hd,M9];cases l with
   | nil=>rfl
   | cons x l=>rfl
  rw [fa];rcases zK hd he hi h l 0 J with h1 | ⟨j,x,h1,h2⟩
  ·exact .inl h1
  ·exact .inr ⟨j,x,by rw [NJ]at h1;exact h1,h2⟩
 ·obtain⟨_,a,b,rfl⟩:=h;have:Instr.sameBits 10000 (.agg #[.string a,.string b]) (.agg #[.string a,.string b])=true:=by
   show Instr.sameBits (9999+1) _ _=true;simp [Instr.sameBits,P1]
  simp [Instr.keyThatStays,this]
def ln {kt:Nat}{d:TypeDesc}{y:SV}(hd:T.und kt=some d)(h:keyOkT T d y=true):lB T kt d/\ky d y.val:=by
 unfold keyOkT at h;split at h
 ·rename_i hk;unfold keyOk at hk;split at hk
  ·exact⟨mY hd λq=>P2,rfl⟩
  ·exact⟨mY hd λq=>P2,rfl⟩
  ·exact⟨mY hd λq=>P2,trivial⟩
  ·cases hk
 ·split at h
  ·rename_i G he hi;have G:=jK G;subst G;exact⟨Fh hd he (nj hi),rfl,_,_,rfl⟩
  ·cases h
 ·cases h
def iD {es:List MapEntry}{q:Value}{x:MapEntry}(J:(es.map (·.key)).Nodup)(G:x∈es)(hk:x.key=q):eG es q=some x.val:=by
 unfold eG
 induction es with
 | nil=>cases G
 | cons y l Z=>
  rw [NI,N7]at J;by_cases H:y.key=q
  ·rw [List.find?_cons_of_pos (by simpa using H)];rcases Nw.1 G with rfl | G
   ·rfl
   ·exfalso;exact J.1 (NT.2 ⟨x,G,by rw [hk,H]⟩)
  ·rw [List.find?_cons_of_neg (by simpa using H)];rcases Nw.1 G with rfl | G
   ·exact absurd hk H
   ·exact Z J.2 G
def gQ {es:List MapEntry}{q:Value}(h:∀x∈es,x.key≠q):eG es q=none:=by
 unfold eG;rw [List.find?_eq_none.2 λx G=>by simpa using h x G];rfl
def oH (es:List MapEntry)(q:Value):(∃x∈es,x.key=q/\eG es q=some x.val)\/((∀x∈es,x.key≠q)/\eG es q=none):=by
 by_cases h:∀x∈es,x.key≠q
 ·exact .inr ⟨h,gQ h⟩
 ·left;unfold eG;cases G:es.find? λx=>@decide (x.key=q) (Classical.propDecidable _)with
  | none=>exact absurd (λx H=>by simpa using List.find?_eq_none.1 G x H) h
  | some x=>
   have h1:=Py G;have J:=List.find?_some G;exact⟨x,h1,by simpa using J,rfl⟩
def zM {t:Nat}:(Instr.makeMap t none).run T.P w= .ok (.map (some w.heap.size)) (w.alloc (.map #[] 0)):=by
 rfl
def yW {d:TypeDesc}{es:Array MapEntry}(h:∀x∈es.toList,ky d x.key)(i:Nat)(f:MapEntry->MapEntry)(hk:∀e,es[i]?=some e->(f e).key=e.key):∀x∈(es.modify i f).toList,ky d x.key:=by
 intro x G;have:x.key∈(es.modify i f).toList.map (·.key):=NT.2 ⟨x,G,rfl⟩;rw [MapKept.modify_keys i f hk]at this;obtain⟨y,H,e⟩:=NT.1 this;rw [<-e];exact h y H
def oY {r:Nat}{o H:Obj}(hb:w.heap[r]?=some o):dR w {w with heap:=w.heap.setIfInBounds r H} r:=⟨rfl,rfl,rfl,by simp,λb G=>(P9 hb).2 b G⟩
def tH {r clock:Nat}{d:TypeDesc}{q:Value}(z:Value){m:Value->Option Value}{es:Array MapEntry}(hb:w.heap[r]?=some (.map es clock))(hs:MapKept.Stamped es clock)(β:∀x∈es.toList,ky d x.key)(J:∀q,m q=eG es.toList q)(hq:ky d q)(h2:∀x∈es.toList,x.key≠q):
  IsMap {w with heap:=w.heap.setIfInBounds r (.map (es.push {key:=q,val:=z,born:=clock}) (clock+1))} r d (gz m q z):=by
 have H:=MapKept.stamped_push hs h2 (val:=z);refine⟨_,_,(P9 hb).1,H,?_,λp=>?_⟩
 ·intro x G;simp only [P0,Nk,ND]at G;rcases G with G | rfl
  ·exact β x G
  ·exact hq
 ·rw [P0];unfold gz;by_cases Z:p=q
  ·rw [NO Z];refine(iD (x:={key:=q,val:=z,born:=clock}) ?_ (by simp) Z.symm).symm;have :=H.2.2
   rwa [P0]at this
  ·rw [Nt Z,J p];rcases oH es.toList p with⟨x,k1,k2,k3⟩ | ⟨k1,k2⟩
   ·rw [k3];refine(iD (x:=x) ?_ (by simp [k1]) k2).symm;have :=H.2.2
    rwa [P0]at this
   ·rw [k2];refine(gQ λx G=>?_).symm;rcases Nk.1 G with G | G
    ·exact k1 x G
    ·have:x={key:=q,val:=z,born:=clock}:=by simpa using G
     subst this;exact λe=>Z e.symm
def qs {es:Array MapEntry}{j:Nat}{x:MapEntry}(G:es[j]?=some x){f g:MapEntry->MapEntry}(h:f x=g x):es.modify j f=es.modify j g:=by
 apply Array.ext_getElem?;intro i;rw [OM,OM];split
 ·rename_i e;subst e;rw [G];simp [h]
 ·rfl
def jC {r clock j:Nat}{d:TypeDesc}{q:Value}(z:Value){m:Value->Option Value}{es:Array MapEntry}{x:MapEntry}(hb:w.heap[r]?=some (.map es clock))(hs:MapKept.Stamped es clock)(γ:∀x∈es.toList,ky d x.key)(β:∀q,m q=eG es.toList q)(hj:es[j]?=some x)(h3:x.key=q):
  IsMap {w with heap:=w.heap.setIfInBounds r (.map (es.modify j λe=>{e with key:=q,val:=z}) clock)} r d (gz m q z):=by
 have J:∀e',es[j]?=some e'->({e' with key:=q,val:=z}:MapEntry).key=e'.key:=λe' H=>by rw [hj]at H;cases H;exact h3.symm
 have Z:MapKept.Stamped (es.modify j λe=>{e with key:=q,val:=z}) clock:=MapKept.stamped_modify hs _ _ (λ _ _=>rfl) (λe' _ H=>J e' H);refine⟨_,_,(P9 hb).1,Z,yW γ _ _ J,λp=>?_⟩;have ε:j< es.size:=(NL.1 hj).1;have G:∀i,(es.modify j λe=>{e with key:=q,val:=z}).toList[i]?=if i=j then some {x with key:=q,val:=z}else es.toList[i]?:=λi=>by
  rw [Oe,OM];by_cases hi:j=i
  ·subst hi;simp [hj]
  ·simp [hi,P' hi]
 unfold gz;by_cases hp:p=q
 ·rw [NO hp];refine(iD (x:={x with key:=q,val:=z}) Z.2.2 (O6 (i:=j) (by rw [G,NO rfl])) hp.symm).symm
 ·rw [Nt hp,β p];rcases oH es.toList p with⟨y,k1,k2,k3⟩ | ⟨k1,k2⟩
  ·rw [k3];obtain⟨i,hi,e⟩:=Od.1 k1;have δ:i≠j:=λhh=>by
    subst hh;have:es.toList[i]?=some y:=by rw [M6 hi,e]
    rw [Oe,hj]at this;cases this;exact hp (k2.symm.trans h3)
   refine(iD (x:=y) Z.2.2 (O6 (i:=i) (by rw [G,Nt δ,M6 hi,e])) k2).symm
  ·rw [k2];refine(gQ λy hy=>?_).symm;obtain⟨i,hi⟩:=List.mem_iff_getElem?.1 hy;rw [G]at hi;split at hi
   ·cases hi;exact λe=>hp e.symm
   ·exact k1 y (O6 hi)
def ui {t kt et r:Nat}{d:TypeDesc}{q z:Value}{m:Value->Option Value}(hm:T.und t=some (.map kt et))(hd:lB T kt d)(J:ky d q)(h:IsMap w r d m):
  ∃w',(Instr.mapUpdate t (.map (some r)) q z).run T.P w= .ok () w'/\IsMap w' r d (gz m q z)/\dR w w' r:=by
 obtain⟨es,clock,hb,hs,H,G⟩:=h;have Z:=T.und_ok _ _ hm;rcases hd.find w q es.toList J H with⟨h1,h2⟩ | ⟨j,x,h1,h2,h3⟩
 ·refine⟨_,?_,tH z hb hs H G J h2,oY hb⟩;simp [Instr.mapUpdate,Pu Z,O0 hb,hd.check w q _ J,h1,Pp _ hb,Result.andThen]
 ·have hj:es[j]?=some x:=by simpa using h2
  refine⟨_,?_,jC z hb hs H G hj h3,oY hb⟩;simp [Instr.mapUpdate,Pu Z,O0 hb,hd.check w q _ J,h1,hj,h3,hd.stays w q J,Pp _ hb,Result.andThen]
def xO {t kt et r:Nat}{d:TypeDesc}{q:Value}{m:Value->Option Value}{i:Value×Nat×Nat}(hm:T.und t=some (.map kt et))(hd:lB T kt d)(hi:T.inf et=some i)(J:ky d q)(h:IsMap w r d m):
  ∃v0 s w',(Instr.mapEntry t (.map (some r)) q).run T.P w= .ok (.tuple #[v0,.int .i64 s]) w'/\IsMap w' r d (gz m q v0)/\dR w w' r/\Ds w' r s q:=by
 obtain⟨es,clock,hb,hs,H,G⟩:=h;obtain⟨z,sz,bb⟩:=i;have Z:=T.und_ok _ _ hm;rcases hd.find w q es.toList J H with⟨h1,h2⟩ | ⟨j,x,h1,h2,h3⟩
 ·refine⟨z,clock,_,?_,tH z hb hs H G J h2,oY hb,_,_,es.size,{key:=q,val:=z,born:=clock},(P9 hb).1,by simp,rfl,rfl⟩;simp [Instr.mapEntry,Pu Z,O0 hb,hd.check w q _ J,h1,(bB hi w).2,Pp _ hb,Result.andThen,goInt]
 ·have hj:es[j]?=some x:=by simpa using h2
  have e:es.modify j (λe=>{e with key:=q})=es.modify j λe=>{e with key:=q,val:=x.val}:=qs hj rfl
  refine⟨x.val,x.born,_,?_,jC x.val hb hs H G hj h3,oY hb,_,_,j,{x with key:=q,val:=x.val},(P9 hb).1,by simp [OM,hj],rfl,rfl⟩;simp [Instr.mapEntry,Pu Z,O0 hb,hd.check w q _ J,h1,hj,h3,hd.stays w q J,Pp _ hb,Result.andThen,goInt,e]
def rT {t r:Nat}{d:TypeDesc}{q z:Value}{s:Int}{m:Value->Option Value}(h:IsMap w r d m)(he:Ds w r s q):
  ∃w',(Instr.entryStore t (.map (some r)) (.int .i64 s) z).run T.P w= .ok () w'/\IsMap w' r d (gz m q z)/\dR w w' r:=by
 obtain⟨es,clock,hb,hs,β,G⟩:=h;obtain⟨δ,Z,j,x,H,hj,hk,rfl⟩:=he;rw [hb]at H;cases H;have e:es.modify j (λe=>{e with val:=z})=es.modify j λe=>{e with key:=q,val:=z}:=qs hj (by rw [<-hk])
 have γ:j< es.size:=(NL.1 hj).1;have J:es[j]=x:=(NL.1 hj).2;have hf:es.findIdx? (λe=>(e.born:Int)==(x.born:Int))=some j:=by
  rw [Array.findIdx?_eq_some_iff_getElem];refine⟨γ,by simp [J],λi hi=>?_⟩;have ε:=hs.2.1;intro hb;have hb:es[i].born=es[j].born:=by
   have:(es[i].born:Int)=x.born:=by simpa using hb
   rw [J];omega
  have h1:(es.toList.map (·.born))[i]'(by simp;omega)=(es.toList.map (·.born))[j]'(by simp;omega):=by simpa using hb
  have :=(List.getElem_inj (((MapKept.stamped_iff es clock).1 hs).2.1)).1 h1;omega
 refine⟨_,?_,jC z hb hs β G hj hk,oY hb⟩;simp [Instr.entryStore,O0 hb,asInt,asIntOf,hf,Pp _ hb,Result.andThen,e]
def Bh {t kt et r s sb:Nat}{d:TypeDesc}{q z:Value}{m:Value->Option Value}{ok:Bool}(hm:T.und t=some (.map kt et))(hd:lB T kt d)(hi:T.inf et=some (z,s,sb))(Z:ky d q)(h:IsMap w r d m)
  {y:Value} {g:Bool} (hg:(g=true/\m q=some y)\/(g=false/\m q=none/\y=z)):
  (Instr.lookup t (.map (some r)) q ok).run T.P w= .ok (if ok then .tuple #[y,.bool g]else y) w:=by
 obtain⟨es,clock,hb,hs,β,G⟩:=h;have H:=T.und_ok _ _ hm;rcases hd.find w q es.toList Z β with⟨h1,h2⟩ | ⟨j,x,h1,h2,h3⟩
 ·have J:m q=none:=by rw [G];exact gQ h2
  rcases hg with⟨_,h⟩ | ⟨rfl,_,rfl⟩
  ·rw [J]at h;cases h
  ·simp [Instr.lookup,Pu H,O0 hb,hd.check w q _ Z,h1,(bB hi w).2,Result.andThen]
 ·have J:m q=some x.val:=by rw [G];exact iD hs.2.2 (O6 h2) h3
  rcases hg with⟨rfl,h⟩ | ⟨_,h,_⟩
  ·rw [J]at h;cases h;simp [Instr.lookup,Pu H,O0 hb,hd.check w q _ Z,h1,Result.andThen]
  ·rw [J]at h;cases h
def cells_one {z:Value}(h:oneV z=true):z.cells=#[z]:=by cases z<;>first | rfl | cases h
def uL {z:Value}(h:oneV z=true)(n:Nat):(Builtin.zeroCells z.cells n).toList=List.replicate n z:=by
 rw [cells_one h];unfold Builtin.zeroCells;rw [On,Array.toList_range];refine Ps (by simp) λi h1 G=>?_
 simp [Nat.mod_one]
def Ft {z:Value}(h:oneV z=true)(n:Nat):madeCells z.cells n=(List.replicate n z).toArray:=by
 rw [cells_one h];unfold madeCells;apply Ou.1;rw [On,Array.toList_range];refine Ps (by simp) λi h1 G=>?_
 simp [Nat.mod_one]
def uZ {t el s:Nat}{n:Int}{z:Value}(H:T.und t=some (.slice el))(hi:T.inf el=some (z,1,s))(J:oneV z=true)(hs:s<=256)(G:0<=n)(h1:n<=1099511627776):
  (Instr.makeSlice t (.int .i64 n) (.int .i64 n)).run T.P w= .ok (.slice (some ⟨w.heap.size,0,none⟩) n.toNat n.toNat) (w.alloc (.cells (List.replicate n.toNat z).toArray el)):=by
 obtain⟨i,Z,h3,h4,h5⟩:=T.inf_ok _ _ _ _ hi;have hb:(i.bytes:Int)* n<=256* n:=Int.mul_le_mul_of_nonneg_right (by omega) G;rw [run_make w t el i z (T.und_ok _ _ H) Z h3 .i64 .i64 n n G (Int.le_refl _) (by omega) (by omega),h4,NQ,Ft J]
def DN {t el ty n cap b off Z:Nat}{z:Value}(H:T.und t=some (.slice el))(hi:T.inf el=some (z,1,Z))(J:oneV z=true)(hc:∀j,j< n->(∃u,w.cell? ⟨b,off+j,none⟩=some u)/\w.frozen? ⟨b,off+j,none⟩=false):
  (Builtin.clear_ #[t] ty #[.slice (some ⟨b,off,none⟩) n cap]).run T.P w= .ok (.tuple #[]) (World.setCells w b off (List.replicate n z)):=by
 have G:=nt (T:=T) (b:=b) (List.replicate n z) off 0 w (by simp [J]) (by simpa using hc);cases n with
 | zero=>simp [Builtin.clear_,aX H,World.setCells]
 | succ n=>
  simp only [Builtin.clear_,PW,OY,Nl,aX H,M9,(bB hi w).2,uL J,G,PC,Nn]
def BO {t el ty cap:Nat}{G:Option Addr}(H:T.und t=some (.slice el)):(Builtin.clear_ #[t] ty #[.slice G 0 cap]).run T.P w= .ok (.tuple #[]) w:=by
 cases G<;>simp [Builtin.clear_,aX H]
def Bc {t n el s b:Nat}{zs:Array Value}(G:T.und t=some (.array n el))(hi:T.inf t=some (.agg zs,s,b))(he:(T.inf el).isSome=true):(Instr.build t #[]).run T.P w= .ok (.agg zs) w:=by
 obtain⟨⟨z,J,Z⟩,H⟩:=Option.isSome_iff_exists.1 he;simp [Instr.build,(bB hi w).2,aX G,(bB H w).1,Instr.fill,Value.cells,Result.andThen]
def CX:∀(ps:List (Nat×SV)) (zs xs:List SV),(∀x,x∈ps->x.2.val.cells=(cellsOf x.2).toArray)->buildAr zs ps=some xs->
  Instr.fill (λi=>some (i* 1,1)) (SV.aM zs).toArray (ps.map λp=>(p.1,p.2.val))=some (SV.aM xs).toArray
 | [],zs,xs,_,h=>by cases h;rfl
 | (i,x)::r,zs,xs,G,h=>by
  unfold buildAr at h;split at h
  ·rename_i β hc H;obtain⟨H,rfl⟩:=wI H;have ih:=CX r _ xs (λy hy=>G y (Nh _ hy)) h;have Z:x.val.cells=#[x.val]:=by
    rw [G (i,x) (NP)];cases x<;>first | rfl | (cases hc;done)
   simp only [NI,Instr.fill,Z,NQ];rw [Nt (by simp [gb];omega)];have J:(#[x.val].zipIdx.foldl (λcs (c,j)=>cs.setIfInBounds (i+j) c) (SV.aM zs).toArray)=(SV.aM (zs.set i x)).toArray:=by
    rw [sV];simp
   rw [J];simp only [NQ]at ih;exact ih
  ·cases h
def AG {t n el s b Z:Nat}{z:Value}{zs:Array Value}{ps:List (Nat×SV)}{xs:List SV}{parts:Array (Nat×Value)}(ht:T.und t=some (.array n el))(hi:T.inf t=some (.agg zs,s,b))(he:T.inf el=some (z,1,Z))
  (G:parts.toList=ps.map λp=>(p.1,p.2.val)) (H:∀x,x∈ps->x.2.val.cells=(cellsOf x.2).toArray) (hb:buildAr (mapR svOf zs.toList) ps=some xs):
  (Instr.build t parts).run T.P w= .ok (.agg (SV.aM xs).toArray) w:=by
 have hz:(SV.aM (mapR svOf zs.toList)).toArray=zs:=by
  have:∀l:List Value,SV.aM (mapR svOf l)=l:=by
   intro l;induction l with
   | nil=>rfl
   | cons v l ih=>simp only [mapR,SV.aM,AB,ih]
  rw [this]
 have J:=CX ps _ xs H hb;rw [hz]at J;simp only [Instr.build,Nl,(bB hi w).2,M9,aX ht,Value.cells,(bB he w).1,G,J,Nn]
def BD {t el bb:Nat}{z:Value}{G H J Z:UInt32}(ht:T.und t=some (.array 2 el))(he:T.und el=some (.int .u32))(hi:T.inf el=some (z,1,bb)):
  (binOp .neq t (.agg #[.int .u32 G.toNat,.int .u32 H.toNat]) (.agg #[.int .u32 J.toNat,.int .u32 Z.toNat])).run T.P w= .ok (.bool (!(decide (G=J)&&decide (H=Z)))) w:=by
 have hs:single (T.und el)=true:=by rw [he]
 have es:∀(a b:UInt32) (n:Nat),(Op.equalIn (n+1) el (.int .u32 a.toNat) (.int .u32 b.toNat)).run T.P w= .ok (decide (a=b)) w:=λa b n=>by
  simp only [Op.equalIn,Nl,aX he,M9,O9,Nn,IY]
 have h:(Op.equal t (.agg #[.int .u32 G.toNat,.int .u32 H.toNat]) (.agg #[.int .u32 J.toNat,.int .u32 Z.toNat])).run T.P w= .ok (decide (G=J)&&decide (H=Z)) w:=
  vZ ht hi hs (es _ _ _) (es _ _ _)
 simp only [binOp,Nl,h,M9,Nn]
def xv {t el bb:Nat}{z G H J Z:Value}{xo yo:Operand}(ht:T.und t=some (.array 2 el))(he:T.und el=some (.int .u32))(hi:T.inf el=some (z,1,bb)):
  (eqGuard .neq t xo yo (.agg #[G,H]) (.agg #[J,Z])).run T.P w= .ok () w:=by
 have g:(Op.eqGuardIn Op.maxDepth t (.agg #[G,H]) (.agg #[J,Z])).run T.P w= .ok false w:=DR (d:=Op.maxDepth - 2) ht hi he;unfold eqGuard;cases hb:T.P.eqGuardType T.P.depth t<;>simp [Nl,run_program,M9,hb,g]
def vf {t el:Nat}(G:T.und t=some (.slice el))(q:Option Addr)(n c:Nat):
  (binOp .eql t (.slice q n c) (.slice none 0 0)).run T.P w= .ok (.bool q.isNone) w/\(binOp .neq t (.slice q n c) (.slice none 0 0)).run T.P w= .ok (.bool (!q.isNone)) w:=by
 have h:(Op.equal t (.slice q n c) (.slice none 0 0)).run T.P w= .ok q.isNone w:=by
  show(Op.equalIn Op.maxDepth t _ _).run T.P w=_;have:Op.maxDepth=(Op.maxDepth - 1)+1:=rfl;rw [this];cases q<;>simp only [Op.equalIn,Nl,aX G,M9,Nn]<;>rfl
 constructor<;>simp only [binOp,Nl,h,M9,Nn]
end
def pure_run {T:dv}{N:Nat}{e:Env}{o:Oper}{a:Act}{k:SV->Prop}(G:aC N e a)(h:yy T e o k):bR T.P o a k:=by
 unfold yy pureR at h;split at h
 ·rename_i x J;split at h
  ·exact vA G (.inl J) (by assumption) h
  ·exact h.elim
 ·rename_i x J;split at h
  ·exact vA G (.inr J) (by assumption) h
  ·exact h.elim
 ·rename_i c x y J;split at h
  ·rename_i hc;split at h
   ·exact wk G J (aD G hc) (by simpa using ‹_›) h
   ·exact h.elim
  ·rename_i hc;split at h
   ·exact wk G J (aD G hc) (by simpa using ‹_›) h
   ·exact h.elim
  ·exact h.elim
 ·rename_i op t x y yt J;split at h
  ·rename_i p q H hy;split at h
   ·rename_i z hz;exact dc G J H hy (BB hz) (λw=>GR hz) h
   ·split at h
    ·rename_i pr z hz;exact dc G J H hy (Bv hz) (λw=>Hb hz h.1) h.2
    ·split at h
     ·rename_i Z hb hc _ _;exact dc (z:= .b _) G J H hy (vF hb) (by rw [oA hb,oA hc];exact λw=>(tG Z _ _).1) h
     ·rename_i Z hb hc _ _;exact dc (z:= .b _) G J H hy (vF hb) (by rw [oA hb,oA hc];exact λw=>(tG Z _ _).2) h
     ·rename_i el Z _ _ _ _;split at h
      ·obtain⟨q,rfl,h⟩:=h;exact dc (z:= .b _) G J H hy (λ _=>rfl) (λw=>(rA Z q).1) h
      ·exact dc (z:= .ff) G J H hy (λ _=>rfl) (λw=>(rA Z (some _)).1) h
      ·exact h.elim
     ·rename_i el Z _ _ _ _;split at h
      ·obtain⟨q,rfl,h⟩:=h;exact dc (z:= .b _) G J H hy (λ _=>rfl) (λw=>(rA Z q).2) h
      ·exact dc (z:= .tt) G J H hy (λ _=>rfl) (λw=>(rA Z (some _)).2) h
      ·exact h.elim
     ·rename_i el Z _ _ _ _;split at h
      ·split at h
       ·rename_i hn hm;have hn:=jK hn;have hm:=jK hm;subst hn;subst hm;obtain⟨q,n,c,rfl,h⟩:=h;exact dc (z:= .b _) G J H hy (λ _=>rfl) (λw=>(vf Z q n c).1) h
       ·exact h.elim
      ·exact h.elim
     ·rename_i el Z _ _ _ _;split at h
      ·split at h
       ·rename_i hn hm;have hn:=jK hn;have hm:=jK hm;subst hn;subst hm;obtain⟨q,n,c,rfl,h⟩:=h;exact dc (z:= .b _) G J H hy (λ _=>rfl) (λw=>(vf Z q n c).2) h
       ·exact h.elim
      ·exact h.elim
     ·rename_i el Z _ _ _ _;split at h
      ·rename_i hu hi _ _ _ _;have hn:=jK (by assumption);subst hn;have hi:=nj hi;obtain⟨x0,x1,y0,y1,rfl,rfl,h⟩:=h;refine bR.mk _ h λw=>wz J ?_ ?_
       ·rw [aD G H,aD G hy];exact xv Z hu hi
       ·rw [aD G H,aD G hy];exact BD Z hu hi
      ·exact h.elim
     ·split at h
      ·obtain⟨q,hq,h⟩:=h;refine bR.mk (.b q) h λw=>wz J ?_ ?_
       ·rw [aD G H,aD G hy];exact(hq x y w).1
       ·rw [aD G H,aD G hy];exact(hq x y w).2
      ·exact h.elim
     ·exact h.elim
  ·exact h.elim
 ·rename_i op t x J;split at h
  ·rename_i y hy;split at h
   ·rename_i z hz;refine bR.mk _ h λw=>?_
    simp only [execOp,J,aD G hy,Nl,I7 hz,M9,Nn]
   ·exact h.elim
  ·rename_i n hn;refine bR.mk _ h.2 λw=>?_
   simp only [execOp,J,aD G hn,SV.val,Op.unary,Op.intArith,Nl,M9,Nn,jB h.1]
  ·exact h.elim
 ·rename_i src dst x J;split at h
  ·rename_i k' c hs hd H;refine bR.mk _ h λw=>?_
   have:IntKind.i64.wrap (c.toNat:Int)=c.toNat:=jB (by have :=c.toNat_lt;unfold cW;omega);simp only [execOp,J,aD G H,SV.val,convert,Nl,aX hs,aX hd,M9,Conv.intToInt,Nn,this]
  ·rename_i k' n hs hd H;refine bR.mk _ h λw=>?_
   have:IntKind.u8.wrap n=((UInt8.ofNat (n % 256).toNat).toNat:Int):=by
    rw [wrap_u8,Om];omega
   simp only [execOp,J,aD G H,SV.val,convert,Nl,aX hs,aX hd,M9,Conv.intToInt,Nn,this]
  ·rename_i k' n hs hd H;refine bR.mk _ h.2 λw=>?_
   simp only [execOp,J,aD G H,SV.val,convert,Nl,aX hs,aX hd,M9,Conv.intToInt,Nn,jB h.1]
  ·rename_i k' c hs hd H;refine bR.mk _ h λw=>?_
   have:IntKind.i32.wrap (c.toNat:Int)=c.toNat:=IntWalk.i32_in _ (by have :=c.toNat_lt;omega);simp only [execOp,J,aD G H,SV.val,convert,Nl,aX hs,aX hd,M9,Conv.intToInt,Nn,this]
  ·rename_i k' n hs hd H;refine bR.mk _ h.2 λw=>?_
   have:IntKind.i32.wrap n=n:=IntWalk.i32_in _ (by have :=h.1;omega);simp only [execOp,J,aD G H,SV.val,convert,Nl,aX hs,aX hd,M9,Conv.intToInt,Nn,this]
  ·rename_i k' n hs hd H;refine bR.mk _ h.2 λw=>?_
   simp only [execOp,J,aD G H,SV.val,convert,Nl,aX hs,aX hd,M9,Conv.intToString,Nn,DT h.1.1 h.1.2]
  ·exact h.elim
 ·rename_i t x ix J;split at h
  ·rename_i l n Z H hn;refine bR.mk _ h.2 λw=>?_
   simp only [execOp,J,aD G H,aD G hn,SV.val,Nl,Iu Z h.1.1 h.1.2,M9,Nn]
  ·exact h.elim
 ·rename_i t x lo hi J;have γ:∀{q:Option (Option SV)} {n:Option Int},IH (ev e) lo=q->q=n.map (λm=>some (SV.i m))->lo.map a.eval=nq n:=by
   intro q n h1 h2;cases lo<;>cases n<;>simp at h1 h2<;>subst h1<;>simp at h2
   ·rfl
   ·simp [nq,aD G h2,SV.val]
  have δ:∀{q:Option (Option SV)} {n:Option Int},IH (ev e) hi=q->q=n.map (λm=>some (SV.i m))->hi.map a.eval=nq n:=by
   intro q n h1 h2;cases hi<;>cases n<;>simp at h1 h2<;>subst h1<;>simp at h2
   ·rfl
   ·simp [nq,aD G h2,SV.val]
  have hs:∀{l:aJ} {n m:Option Int},T.und t=some .string->ev e x=some (.s l)->lo.map a.eval=nq n->hi.map a.eval=nq m->0<=n.getD 0->n.getD 0<=m.getD l.length->m.getD l.length<=l.length->
    k (.s ((l.take (m.getD l.length).toNat).drop (n.getD 0).toNat))->bR T.P o a k:=by
   intro l n m Z H h1 h2 h3 h4 h5 hk;refine bR.mk _ hk λw=>?_
   simp only [execOp,J,aD G H,SV.val,h1,h2,Qi,Nl,xi Z h3 h4 h5,M9,Nn]
  have hv:∀{el:Nat} {val:Value} {n m:Option Int},T.und t=some (.slice el)->ev e x=some (.v val)->lo.map a.eval=nq n->hi.map a.eval=nq m->runPR (slR T el val (n.getD 0) m) k->bR T.P o a k:=by
   intro el val n m Z H h1 h2 hk;unfold slR at hk;split at hk
   ·exact hk.elim
   ·rename_i z sz b κ;cases m with
    | none=>
     obtain⟨ad,len,cap,rfl,h3,h4,h5,hk⟩:=hk;refine bR.mk _ hk λw=>?_
     simp only [execOp,J,aD G H,SV.val,h1,h2,Qi,Nl,qm (hi:=none) Z κ h3 h4 h5,M9,Nn];rfl
    | some m=>
     obtain⟨ad,len,cap,rfl,h3,h4,h5,hk⟩:=hk;refine bR.mk _ hk λw=>?_
     simp only [execOp,J,aD G H,SV.val,h1,h2,Qi,Nl,qm (hi:=some m) Z κ h3 h4 h5,M9,Nn];rfl
  split at h
  ·rename_i l Z H h1 h2;refine hs (n:=none) (m:=none) Z H (γ h1 rfl) (δ h2 rfl) (by simp) (by simp) (by simp) ?_;simpa [runPR]using h
  ·rename_i l p Z H h1 h2;refine hs (n:=some p) (m:=none) Z H (γ h1 rfl) (δ h2 rfl) h.1.1 h.1.2 (by simp) ?_;simpa using h.2
  ·rename_i l q Z H h1 h2;refine hs (n:=none) (m:=some q) Z H (γ h1 rfl) (δ h2 rfl) (by simp) h.1.1 h.1.2 ?_;simpa using h.2
  ·rename_i l p q Z H h1 h2;exact hs (n:=some p) (m:=some q) Z H (γ h1 rfl) (δ h2 rfl) h.1.1 h.1.2.1 h.1.2.2 h.2
  ·rename_i el val Z H h1 h2;exact hv (n:=none) (m:=none) Z H (γ h1 rfl) (δ h2 rfl) h
  ·rename_i el val p Z H h1 h2;exact hv (n:=some p) (m:=none) Z H (γ h1 rfl) (δ h2 rfl) h
  ·rename_i el val q Z H h1 h2;exact hv (n:=none) (m:=some q) Z H (γ h1 rfl) (δ h2 rfl) h
  ·rename_i el val p q Z H h1 h2;exact hv (n:=some p) (m:=some q) Z H (γ h1 rfl) (δ h2 rfl) h
  ·exact h.elim
 ·rename_i x i J;split at h
  ·rename_i xs H;split at h
   ·rename_i y hy;refine bR.mk _ h λw=>?_
    rw [xS]at hy;have μ:∀(l:List SV) (j:Nat) (z:SV),l[j]?=some z->(SV.aM l)[j]?=some z.val:=by
     intro l
     induction l with
     | nil=>intro j z hz;simp at hz
     | cons p l ih=>intro j z hz;cases j with
      | zero=>simp at hz;subst hz;rfl
      | succ j=>simp at hz;simpa [SV.aM]using ih j z hz
    simp only [execOp,J,aD G H,SV.val,Instr.extract,PW,μ _ _ _ hy,Nl,M9,Nn]
   ·exact h.elim
  ·exact h.elim
 ·rename_i x J;split at h
  ·rename_i b off H;refine bR.mk _ h λw=>?_
   simp only [execOp,J,aD G H,SV.val,Nn]
  ·rename_i val H;obtain⟨b,off,rfl,h⟩:=h;refine bR.mk _ h λw=>?_
   simp only [execOp,J,aD G H,SV.val,Nn]
  ·exact h.elim
 ·rename_i s x f J;split at h
  ·rename_i fs b off hs H;split at h
   ·rename_i fd hf;rw [dL]at hf;split at h
    ·rename_i z sz bb hi;split at h
     ·exact h.elim
     ·rename_i hz;refine bR.mk _ h λw=>?_
      simp only [execOp,J,aD G H,SV.val,Nl,Ep hs hf hi (λe=>by rw [e]at hz;cases hz),M9,Nn]
    ·exact h.elim
   ·exact h.elim
  ·exact h.elim
 ·rename_i t x ix J;split at h
  ·rename_i el val n Z H hn;split at h
   ·rename_i z sz bb hi;obtain⟨b,off,len,cap,rfl,h0,h1,h⟩:=h;obtain⟨y,hy,ζ⟩:=yZ hn;obtain⟨kd,η⟩:=Cm ζ;refine bR.mk _ h λw=>?_
    simp only [execOp,J,aD G H,aD G hy,η,SV.val,Nl,D8 Z hi h0 h1,M9,Nn]
   ·exact h.elim
  ·rename_i len el b off n Z H hn;split at h
   ·rename_i z sz bb hi;obtain⟨y,hy,ζ⟩:=yZ hn;obtain⟨kd,η⟩:=Cm ζ;refine bR.mk _ h.2 λw=>?_
    simp only [execOp,J,aD G H,aD G hy,η,SV.val,Nl,DQ Z hi h.1.1 h.1.2,M9,Nn]
   ·exact h.elim
  ·exact h.elim
 ·rename_i t parts J;split at h
  ·rename_i fs zs s b ps Z hi hp;split at h
   ·rename_i xs ε hb
    ·obtain⟨θ,h⟩:=okAllC.get h;have ι:∀f∈fs.toList,∃z s b,T.inf f.type=some (z,s,b):=by
      intro f hf;rw [Dq]at ε;have :=OV.1 ε f hf;rw [Db]at this;obtain⟨⟨z,s,b⟩,H⟩:=Option.isSome_iff_exists.1 this;exact⟨z,s,b,H⟩
     refine bR.mk _ h λw=>?_
     have β:(parts.map λp=>(p.1,a.eval p.2)).toList=ps.map λp=>(p.1,p.2.val):=by
      rw [On];exact sA G hp
     have hr:=En (w:=w) Z hi ι β θ hb;simp only [execOp,J,Nl];rw [show(Array.map (λx=>match x with | (i,x)=>(i,a.eval x)) parts)=parts.map λp=>(p.1,a.eval p.2)from rfl,hr];simp only [M9,Nn,SV.val]
   ·exact h.elim
  ·rename_i n el zs s b Z hi hp;split at h
   ·rename_i he;rw [Db]at he;refine bR.mk _ h λw=>?_
    have β:parts.map (λp=>(p.1,a.eval p.2))=#[]:=by
     apply Ou.1;rw [On,sA G hp];rfl
    simp only [execOp,J,Nl];rw [show(Array.map (λx=>match x with | (i,x)=>(i,a.eval x)) parts)=parts.map λp=>(p.1,a.eval p.2)from rfl,β,Bc Z hi he];simp only [M9,Nn,SV.val]
   ·exact h.elim
  ·rename_i n el zs s b p ps Z hi hp;split at h
   ·rename_i z bb he;have he:=nj he;split at h
    ·rename_i xs hb;obtain⟨θ,h⟩:=okAllC.get h;refine bR.mk _ h λw=>?_
     have β:(parts.map λp=>(p.1,a.eval p.2)).toList=(p::ps).map λp=>(p.1,p.2.val):=by
      rw [On];exact sA G hp
     have hr:=AG (w:=w) Z hi he β θ hb;simp only [execOp,J,Nl];rw [show(Array.map (λx=>match x with | (i,x)=>(i,a.eval x)) parts)=parts.map λp=>(p.1,a.eval p.2)from rfl,hr];simp only [M9,Nn,SV.val]
    ·exact h.elim
   ·exact h.elim
  ·exact h.elim
 ·rename_i fn first captured J;split at h
  ·rename_i f ys h1 h2;refine bR.mk _ h λw=>?_
   have e1:first.map a.eval=#[]:=by
    apply Ou.1;rw [On,gg G h1]
   have e2:captured.map a.eval=(SV.aM ys).toArray:=by
    apply Ou.1;rw [On,gg G h2]
   simp only [execOp,J,Nl,Instr.makeFunc,e1,e2,M9,Nn,SV.val]
  ·exact h.elim
 ·rename_i c J;split at h
  ·rename_i hc;have key:∀{t:Nat} {y:SV} {v:Value},mi c.argTypes.toList 0=some t->Mu e (mi c.args.toList 0)=some y->(∀ty w,(Builtin.len_ #[t] ty #[y.val]).run T.P w= .ok v w)->
     ∀w,(execOp a.eval o).run T.P w= .ok (.value v) w:=by
    intro t y v h1 h2 h3 w;rw [dL]at h1 h2;obtain⟨ar,ν,ξ⟩:∃ar,c.args[0]?=some ar/\ev e ar=some y:=by
     cases hq:c.args[0]? with
     | none=>rw [hq]at h2;cases h2
     | some ar=>rw [hq]at h2;exact⟨ar,rfl,h2⟩
    have h4:∀ty,(Builtin.len_ c.argTypes ty (c.args.map a.eval)).run T.P w= .ok v w:=by
     intro ty;rw [<-h3 ty w];have e1:(c.args.map a.eval)[0]?=some y.val:=by rw [Array.getElem?_map,ν];simp [aD G ξ]
     simp only [Builtin.len_,h1,e1];rfl
    simp only [execOp,J,resolve,hc,Nl,Nn,M9,invoke,builtin,h4]
   split at h
   ·rename_i t l h1 h2;split at h
    ·rename_i Z;exact bR.mk (.i _) h (key h1 h2 λty w=>Gf Z)
    ·exact h.elim
   ·rename_i t val h1 h2;split at h
    ·rename_i el Z;obtain⟨ad,n,cap,rfl,h⟩:=h;exact bR.mk (.i _) h (key h1 h2 λty w=>Hr Z)
    ·exact h.elim
   ·exact h.elim
  ·rename_i hc;split at h
   ·rename_i p q h2;have e2:c.args.map a.eval=#[.int .i64 p,.int .i64 q]:=by apply Ou.1;rw [On,gg G h2]
    refine bR.mk _ h λw=>?_
    simp only [execOp,J,resolve,hc,Nl,Nn,M9,invoke,builtin,e2,HA,SV.val]
   ·rename_i p q h2;have e2:c.args.map a.eval=#[.string (ay p),.string (ay q)]:=by apply Ou.1;rw [On,gg G h2]
    refine bR.mk _ h λw=>?_
    simp only [execOp,J,resolve,hc,Nl,Nn,M9,invoke,builtin,e2,Hg,SV.val]
   ·exact h.elim
  ·rename_i hc;split at h
   ·rename_i p q h2;have e2:c.args.map a.eval=#[.int .i64 p,.int .i64 q]:=by apply Ou.1;rw [On,gg G h2]
    refine bR.mk _ h λw=>?_
    simp only [execOp,J,resolve,hc,Nl,Nn,M9,invoke,builtin,e2,Iy,SV.val]
   ·rename_i p q h2;have e2:c.args.map a.eval=#[.string (ay p),.string (ay q)]:=by apply Ou.1;rw [On,gg G h2]
    refine bR.mk _ h λw=>?_
    simp only [execOp,J,resolve,hc,Nl,Nn,M9,invoke,builtin,e2,Fu,SV.val]
   ·exact h.elim
  ·exact h.elim
 ·exact h.elim
def cC.pure {T:dv}{o:Oper}{a:Act}{w:World}{k:SV->Qx}(h:bR T.P o a λy=>k y w):cC T.P o a w k:=by
 obtain⟨y,hk,hr⟩:=h;exact cC.value (hr w) rfl hk
def sG {T:dv}{o:Oper}{a:Act}{w:World}{k:SV->Qx}{t b off:Nat}{x:Operand}(Z:o.op= .load t x)(hx:a.eval x= .pointer (some ⟨b,off,none⟩))(h:sF T t b off w k):cC T.P o a w k:=by
 unfold sF loadR at h;split at h
 ·rename_i G;obtain⟨y,H,h⟩:=h;refine cC.value (w':=w) ?_ rfl h;simp only [execOp,Z,hx,Nl,pC G H,M9,Nn]
 ··split at h
   ·rename_i ks z n bb G hk hi;split at h
    ·rename_i J;have J:=jK J;rw [lq]at J;obtain⟨xs,hl,H,h⟩:=ExL.get h;refine cC.value (w':=w) ?_ rfl h;simp only [execOp,Z,hx,SV.val,Nl,iJ (cs:=SV.aM xs) (iK G w) hi (by rw [gb,hl,J]) (λj hj=>H.get j (by omega)),M9,Nn]
    ·exact h.elim
   ·rename_i z n bb G hk hi;obtain⟨cs,hl,H,h⟩:=h;refine cC.value (w':=w) ?_ rfl h;simp only [execOp,Z,hx,SV.val,Nl,iJ (iK G w) hi hl H,M9,Nn]
   ·exact h.elim
def qt {T:dv}{N:Nat}{e:Env}{o:Oper}{a:Act}{w:World}{k:SV->Qx}{t b off:Nat}{x y:Operand}{z:SV}(G:aC N e a)(Z:o.op= .store t x y)(hx:a.eval x= .pointer (some ⟨b,off,none⟩))(hy:ev e y=some z)(h:pk T t b off z w k):cC T.P o a w k:=by
 have many:∀{n H:Nat} {J:Value} {cs:List Value},T.inf t=some (J,n,H)->z.val= .agg cs.toArray->xV w b off n cs k->cC T.P o a w k:=by
  intro n H J cs hi hz h;obtain⟨⟨h1,h2,h3⟩,h⟩:=h;refine cC.skip (w':=_) ?_ (h _ rfl);simp only [execOp,Z,hx,aD G hy,hz,Nl];rw [zY hi h1 h2 h3];simp only [M9,Nn]
 unfold pk storeR at h;split at h
 ·rename_i hs;split at h
  ·rename_i J H hi;have hi:=nj hi;obtain⟨hv,⟨⟨u,hu⟩,hf⟩,h⟩:=oneOk.get h;refine cC.skip (w':=_) ?_ (h _ rfl);simp only [execOp,Z,hx,aD G hy,Nl,Bp hi hv hu hf,M9,Nn]
  ·exact h.elim
 ·split at h
  ·rename_i hi;exact many hi rfl h
  ·rename_i hi;exact many hi rfl h
  ·rename_i hi;obtain⟨cs,rfl,h⟩:=h;exact many hi rfl h
  ·exact h.elim
def qp {T:dv}{N:Nat}{e:Env}{o:Oper}{a:Act}{w:World}{k:SV->Qx}{t:Nat}{m x y:Operand}(G:aC N e a)
  (J:∀(ρ:Operand->Value) (w w':World),(Instr.mapUpdate t (ρ m) (ρ x) (ρ y)).run T.P w= .ok () w'->(execOp ρ o).run T.P w= .ok .skip w') (h:runOR T (mapupR T e t m x y) w k):cC T.P o a w k:=by
 unfold mapupR at h;split at h
 ·rename_i kt et val q z hm Z hq hz;split at h
  ·rename_i d hd;split at h
   ·rename_i hk;obtain⟨r,mm,rfl,H,h⟩:=h;obtain⟨w',h1,h2,h3⟩:=ui (z:=z.val) hm (ln hd hk).1 (ln hd hk).2 H;refine cC.skip (w':=w') (J _ _ _ ?_) (h w' h2 h3);rw [aD G Z,aD G hq,aD G hz];exact h1
   ·exact h.elim
  ·exact h.elim
 ·exact h.elim
def nO {T:dv}{N:Nat}{e:Env}{o:Oper}{a:Act}{w:World}{k:SV->Qx}(G:aC N e a)(h:AK T e o w k):cC T.P o a w k:=by
 unfold AK opR at h;split at h
 ·rename_i src dst x H;split at h
  ·rename_i el l hs hd hx;split at h
   ·rename_i he;obtain⟨cap,w',h1,h2,h3⟩:=yq (w:=w) (l:=l) hs hd he;refine cC.value (w':=w') ?_ rfl (h _ cap w' rfl h2 h3);simp only [execOp,H,aD G hx,SV.val,Nl,h1,M9,Nn]
   ·exact h.elim
  ·rename_i el val hs hd hx;split at h
   ·rename_i he;obtain⟨b,off,n,c,l,rfl,h1,h2,h⟩:=h;refine cC.value (w':=w) ?_ rfl h;simp only [execOp,H,aD G hx,SV.val,Nl,run_convert_bytes_string (P:=T.P) w src dst el _ _ _ (T.und_ok _ _ hs) (T.und_ok _ _ he) (T.und_ok _ _ hd),ub h1 h2,M9,Nn]
   ·exact h.elim
  ·exact cC.pure (pure_run G h)
 ·rename_i t x H;split at h
  ·rename_i b off hx;exact sG H (aD G hx) h
  ·rename_i val hx;obtain⟨b,off,rfl,h⟩:=h;exact sG H (aD G hx) h
  ·exact h.elim
 ·rename_i t x y H;split at h
  ·rename_i b off z hx hy;exact qt G H (aD G hx) hy h
  ·rename_i val z hx hy;obtain⟨b,off,rfl,h⟩:=h;exact qt G H (aD G hx) hy h
  ·exact h.elim
 ·rename_i el H;split at h
  ·rename_i z s b hi;simp only [runOR,fX,lM]at h;refine cC.value (w':=_) ?_ rfl (h _ _ rfl rfl);simp only [execOp,H,Nl,DY hi (.tuple #[]),M9,Nn,SV.val]
  ·exact h.elim
 ·rename_i t H;refine cC.value (w':=_) ?_ rfl (h _ _ rfl rfl);simp only [execOp,H,Qi,Nl,zM,M9,Nn,SV.val]
 ·rename_i t l c H;split at h
  ·rename_i el n m ht hl hc;split at h
   ·rename_i z s hi;have hi:=nj hi;split at h
    ·rename_i β ε;obtain⟨⟨h0,rfl,h1⟩,h⟩:=h;refine cC.value (w':=_) ?_ rfl (h _ _ rfl rfl);simp only [execOp,H,aD G hl,aD G hc,SV.val,Nl,uZ ht hi β (PX ε) h0 h1,M9,Nn]
    ·exact h.elim
   ·exact h.elim
  ·exact h.elim
 ·rename_i t m x y H;exact qp G (λρ w r h=>by simp only [execOp,H,Nl,h,M9,Nn]) h
 ·rename_i t m x y H;exact qp G (λρ w r h=>by simp only [execOp,H,Nl,h,M9,Nn]) h
 ·rename_i t m x H;split at h
  ·rename_i kt et val q hm Z hq;split at h
   ·rename_i d i hd hi;split at h
    ·rename_i hk;obtain⟨r,mm,rfl,J,h⟩:=h;obtain⟨v0,s,w',h1,h2,h3,h4⟩:=xO hm (ln hd hk).1 hi (ln hd hk).2 J;refine cC.value (w':=w') ?_ rfl (h v0 s w' h2 h3 h4);simp only [execOp,H,aD G Z,aD G hq,Nl];rw [show(SV.v (.map (some r))).val= .map (some r)from rfl,h1];rfl
    ·exact h.elim
   ·exact h.elim
  ·exact h.elim
 ·rename_i t m s y H;split at h
  ·rename_i val s y Z hs hy;obtain⟨r,d,mm,q,rfl,J,he,h⟩:=h;obtain⟨w',h1,h2,h3⟩:=rT (t:=t) (z:=y.val) J he;refine cC.skip (w':=w') ?_ (h w' h2 h3);simp only [execOp,H,aD G Z,aD G hs,aD G hy,Nl];rw [show(SV.v (.map (some r))).val= .map (some r)from rfl,show(SV.i s).val= .int .i64 s from rfl,h1];rfl
  ·exact h.elim
 ·rename_i t m x ok H;split at h
  ·rename_i kt et val q hm Z hq;split at h
   ·rename_i d z sb hd hi;split at h
    ·rename_i hk;obtain⟨r,mm,rfl,J,y,g,hg,h⟩:=h;have hr:=Bh (ok:=ok) hm (ln hd hk).1 hi (ln hd hk).2 J hg;refine cC.value (w':=w) ?_ rfl h;simp only [execOp,H,aD G Z,aD G hq,Nl];rw [show(SV.v (.map (some r))).val= .map (some r)from rfl,hr];cases ok<;>simp only [M9,Nn]<;>rfl
    ·exact h.elim
   ·exact h.elim
  ·exact h.elim
 ·rename_i el x H;split at h
  ·rename_i y hy;split at h
   ·rename_i val Z _;have Z:=GU Z;subst Z;obtain⟨cs,rfl,h⟩:=h;refine cC.value (w':=_) ?_ rfl (h _ _ rfl rfl);simp only [execOp,H,aD G hy,Nl,xm,M9,Nn,SV.val];rfl
   ·rename_i val Z _;have Z:=GU Z;subst Z;obtain⟨h1,h⟩:=h;refine cC.value (w':=_) ?_ rfl (h _ _ rfl rfl);simp only [execOp,H,aD G hy,Nl,xm,M9,Nn,SV.val,cells_one h1]
   ·simp only [runOR,fX]at h;obtain⟨hc,h⟩:=okC.get h;refine cC.value (w':=_) ?_ rfl (h _ _ rfl rfl);simp only [execOp,H,aD G hy,Nl,xm,M9,Nn,SV.val,hc]
  ·exact h.elim
 ·rename_i t len parts H;split at h
  ·rename_i el ps ht hp;split at h
   ·rename_i z sz b hi;split at h
    ·rename_i cs η θ ι hb
     ·rw [Ck,lM]at hb;rw [lq,lM]at η;simp only [runOR,fX]at h;obtain⟨κ,h⟩:=okAllC.get h;refine cC.value (w':=_) ?_ rfl (h _ _ rfl rfl);have γ:(parts.map λp=>(p.1,a.eval p.2)).toList=ps.map λp=>(p.1,p.2.val):=by
       rw [On];exact sA G hp
      have hr:=B5 (w:=w) ht hi (by simpa using jK η) (PX θ) (PX ι) γ κ hb;simp only [execOp,H,Nl];rw [show(Array.map (λx=>match x with | (i,x)=>(i,a.eval x)) parts)=parts.map λp=>(p.1,a.eval p.2)from rfl,hr];simp only [M9,Nn,SV.val]
    ·exact h.elim
   ·exact h.elim
  ·exact h.elim
 ·rename_i c H;split at h
  ·rename_i hc;split at h
   ·rename_i t t' s x h1 h2;split at h
    ·rename_i el ζ ht;have ζ:=jK ζ;subst ζ
     ·split at h
      ·rename_i z sz by_ hi;split at h
       ·rename_i β ε;rw [lq,lM]at β;have e1:c.argTypes=#[t,t]:=Ou.1 h1;have e2:c.args.map a.eval=#[s,x]:=by apply Ou.1;rw [On,gg G h2]
        obtain⟨v,w',hr,hk⟩:=BQ (ty:=o.type) ht hi (by simpa using jK β) (PX ε) h;refine cC.value (w':=w') ?_ rfl hk;simp only [execOp,H,resolve,hc,Nl,Nn,M9,invoke,builtin,e1,e2,hr,SV.val]
       ·exact h.elim
      ·exact h.elim
    ·exact h.elim
   ·exact h.elim
  ·rename_i hc;split at h
   ·rename_i t s h1 h2;split at h
    ·rename_i el ht;split at h
     ·rename_i z sb hi;have hi:=nj hi;split at h
      ·rename_i hz;obtain⟨ad,n,cap,rfl,h⟩:=h;have e1:c.argTypes=#[t]:=Ou.1 h1;have e2:c.args.map a.eval=#[.slice ad n cap]:=by apply Ou.1;rw [On,gg G h2]
       rcases h with⟨rfl,h⟩ | ⟨b,off,rfl,δ,h⟩
       ·refine cC.value (w':=w) ?_ rfl h;simp only [execOp,H,resolve,hc,Nl,Nn,M9,invoke,builtin,e1,e2,BO ht,SV.val,SV.aM]
       ·refine cC.value (w':=_) ?_ rfl (h _ rfl);simp only [execOp,H,resolve,hc,Nl,Nn,M9,invoke,builtin,e1,e2,DN ht hi hz δ,SV.val,SV.aM]
      ·exact h.elim
     ·exact h.elim
    ·exact h.elim
   ·exact h.elim
  ·rename_i t hc;split at h
   ·rename_i val xs h1 h2;simp only [runOR,fX]at h;obtain⟨f,ca,Z,hf,h⟩:=h;exact F9 G H hc h1 Z hf h2 h
   ·exact h.elim
  ·rename_i f hc;split at h
   ·rename_i xs hf hx;simp only [runOR,fX]at h;exact Dy G H hc hf hx h
   ·exact h.elim
  ·exact cC.pure (pure_run G h)
 ·exact cC.pure (pure_run G h)
@[reducible] def slotOf (ops:Array Oper) (j:Nat):Option Nat:=match mi (mF ops) j with
 | some o=>(DH o)
 | none=>none
def DJ (ops:Array Oper)(j:Nat):slotOf ops j=(ops[j]?).bind (·.dst):=by
 unfold slotOf;rw [dL];cases ops[j]?<;>rfl
@[reducible] def bindDst (d:Option Nat) (y:SV) (e:Env):Env:=match d with
 | some d=>(d,y)::e
 | none=>e
def bindK:Option Nat->SV->Env->(Env->Prop)->Prop
 | some d,y,e,k=>k ((d,y)::e)
 | none,_,e,k=>k e
def bZ (d:Option Nat)(y:SV)(e:Env)(k:Env->Prop):bindK d y e k=k (bindDst d y e):=by cases d<;>rfl
@[reducible] def beqR (a b:Nat):Bool:=match Nat.beq a b with
 | true=>true
 | false=>false
def HL (a b:Nat):beqR a b=Nat.beq a b:=by unfold beqR;cases Nat.beq a b<;>rfl
def boolK:Bool->Prop->Prop->Prop
 | true,a,_=>a
 | false,_,b=>b
inductive GS where
 | run | skip | ifT (g:Nat) (x:Bool) | ifF (g:Nat) (x:Bool) | bad
@[reducible] def gst (ops:Array Oper) (e:Env):Option (Nat×Bool)->GS
 | none=> .run
 | some (j,want)=>match slotOf ops j with
  | none=> .bad
  | some g=>match look e g,want with
   | some .tt,true=> .run
   | some .ff,false=> .run
   | some .tt,false=> .skip
   | some .ff,true=> .skip
   | some .un,_=> .skip
   | some (.b x),true=> .ifT g x
   | some (.b x),false=> .ifF g x
   | _,_=> .bad
def guardG:GS->Env->(Env->Prop)->(Env->Prop)->Prop
 | .run,e,run,_=>run e
 | .skip,e,_,G=>G e
 | .ifT g x,e,run,G=>(x=true->run ((g,.tt)::e))/\(x=false->G ((g,.ff)::e))
 | .ifF g x,e,run,G=>(x=false->run ((g,.ff)::e))/\(x=true->G ((g,.tt)::e))
 | .bad,_,_,_=>False
def vcOps (T:dv)(all:Array Oper)(K:Env->Qx):List Oper->Env->Qx
 | [],e,w=>K e w
 | o::r,e,w=>guardG (gst all e (Mv o)) e (λe=>AK T e o w λy w'=>bindK (DH o) y e λG=>vcOps T all K r G w') (λe=>bindK (DH o) .un e λG=>vcOps T all K r G w)
def okOps (N:Nat)(l:List Oper):Bool:=l.all λo=>match o.dst with | some d=>decide (d< N) | none=>true
@[reducible] def dsts:List Oper->List Nat
 | []=>[]
 | o::l=>match (DH o)with
  | some d=>d::dsts l
  | none=>dsts l
def CG:∀l:List Oper,dsts l=l.filterMap (·.dst)
 | []=>rfl
 | ⟨d,_,_,_,_,_⟩::l=>by
  rw [dsts,List.filterMap_cons,CG l];cases d<;>rfl
def da (ws:List Nat)(a a':Act):Prop:=∀t,t∉ws->a'.tmps.getD t undef=a.tmps.getD t undef
def da.refl (ws:List Nat)(a:Act):da ws a a:=λ _ _=>rfl
def da.trans {ws:List Nat}{a b c:Act}(h:da ws a b)(k:da ws b c):da ws a c:=λt G=>(k t G).trans (h t G)
def da.mono {ws G:List Nat}{a b:Act}(h:da ws a b)(H:∀t,t∈ws->t∈G):da G a b:=λt J=>h t λZ=>J (H t Z)
def da.put (a:Act)(d:Option Nat)(v:Value)(ws:List Nat)(h:∀x,d=some x->x∈ws):da ws a (a.put d v):=by
 intro t H;cases d with
 | none=>rfl
 | some d=>
  have G:d≠t:=λe=>H (e▸h d rfl)
  show(a.tmps.setIfInBounds d v).getD t undef=_;simp only [Array.getD,Array.size_setIfInBounds];split
  ·exact Array.getElem_setIfInBounds_ne _ G
  ·rfl
def aC.bind {N:Nat}{e:Env}{a:Act}(h:aC N e a){d:Option Nat}(hd:(match d with | some d=>decide (d< N) | none=>true)=true){x:SV}:aC N (bindDst d x e) (a.put d x.val):=by
 cases d with
 | none=>exact h
 | some d=>exact h.put (by simpa using hd) rfl
def aC.again {N:Nat}{e:Env}{a:Act}(h:aC N e a){g:Nat}{x y:SV}(H:look e g=some x)(J:x.val=y.val):aC N ((g,y)::e) a:=by
 refine⟨h.1,λt z G=>?_⟩;simp only [look]at G;split at G
 ·rename_i heq;have:g=t:=by simpa using heq
  subst this;cases G;rw [h.2 _ _ H,J]
 ·exact h.2 t z G
def wanted_of {N:Nat}{e:Env}{a:Act}(J:aC N e a){all:Array Oper}{o:Oper}{j:Nat}{want:Bool}{g:Nat}{x:SV}(hg:o.guard=some (j,want))(hs:slotOf all j=some g)(hx:look e g=some x):
  Region.wanted o (yielded all a.tmps)=(match x.val with | .bool b=>b==want | _=>false):=by
 have H:=J.2 _ _ hx;rw [DJ]at hs;simp only [Region.wanted,hg,yielded,hs,Option.bind_some];simp only [Array.getD]at H;split at H
 ·rename_i G;have Z:a.tmps[g]?=some x.val:=by rw [Pz G];exact N9 some H
  rw [Z];cases x.val<;>first | rfl | simp
 ·rename_i G;have:a.tmps[g]?=none:=by simp at G|-;omega
  rw [this,<-H];rfl
def pB {T:dv}{N:Nat}{all:Array Oper}{K:Env->Qx}{Q:Exit->Act->Qx}:∀(l:List Oper) (e:Env) (a:Act) (w:World),aC N e a->okOps N l=true->vcOps T all K l e w->
  (∀e' a' w',K e' w'->aC N e' a'->a'.defers=a.defers->da (dsts l) a a'->Q .normal a' w')->wpList T.P all Q l a w
 | [],e,a,w,G,γ,h,hQ=>hQ e a w h G rfl (da.refl _ _)
 | o::r,e,a,w,G,γ,h,hQ=>by
  simp only [okOps,Oj,M8]at γ;obtain⟨hd,β⟩:=γ;have η:∀x,o.dst=some x->x∈dsts (o::r):=by
   intro x H;simp [dsts,H]
  have δ:∀t,t∈dsts r->t∈dsts (o::r):=by
   intro t ht;simp only [dsts,List.filterMap_cons]at*;split<;>simp_all
  have ε:∀(v:Value) e' a' w',K e' w'->aC N e' a'->a'.defers=(a.put o.dst v).defers->da (dsts r) (a.put o.dst v) a'->Q .normal a' w':=by
   intro v e' a' w' hk ζ θ ι;refine hQ e' a' w' hk ζ (θ.trans ?_) ((da.put a o.dst v _ η).trans (ι.mono δ));cases o.dst<;>rfl
  have run:∀{e1:Env},aC N e1 a->(AK T e1 o w λy w'=>vcOps T all K r (bindDst o.dst y e1) w')->Region.wanted o (yielded all a.tmps)=true->wpList T.P all Q (o::r) a w:=by
   intro e1 J h1 hw;unfold wpList;rw [NO hw];left;exact nO J h1 _ _ λy w' hk=>pB r _ _ _ (J.bind hd) β hk (ε y.val)
  have Z:∀{e1:Env},aC N e1 a->vcOps T all K r (bindDst o.dst .un e1) w->Region.wanted o (yielded all a.tmps)=false->wpList T.P all Q (o::r) a w:=by
   intro e1 J h1 hw;unfold wpList;rw [Nt (by rw [hw];simp)];exact pB r _ _ _ (J.bind (x:= .un) hd) β h1 (ε undef)
  unfold vcOps at h;simp only [bZ]at h;unfold gst at h;split at h
  ·rename_i hg;exact run G h (by simp [Region.wanted,hg])
  ·rename_i j want hg;split at h
   ·exact h.elim
   ·rename_i g hs;split at h
    ·rename_i H;exact run G h (by rw [wanted_of G hg hs H];rfl)
    ·rename_i H;exact run G h (by rw [wanted_of G hg hs H];rfl)
    ·rename_i H;exact Z G h (by rw [wanted_of G hg hs H];rfl)
    ·rename_i H;exact Z G h (by rw [wanted_of G hg hs H];rfl)
    ·rename_i H;exact Z G h (by rw [wanted_of G hg hs H];rfl)
    ·rename_i x H;cases x with
     | true=>exact run (G.again (y:= .tt) H rfl) (h.1 rfl) (by rw [wanted_of G hg hs H];rfl)
     | false=>exact Z (G.again (y:= .ff) H rfl) (h.2 rfl) (by rw [wanted_of G hg hs H];rfl)
    ·rename_i x H;cases x with
     | false=>exact run (G.again (y:= .ff) H rfl) (h.1 rfl) (by rw [wanted_of G hg hs H];rfl)
     | true=>exact Z (G.again (y:= .tt) H rfl) (h.2 rfl) (by rw [wanted_of G hg hs H];rfl)
    ·exact h.elim
@[reducible] def KL (T:dv) (o:Oper):Bool:=match (Ji o)with
 | .load .. =>false
 | .store .. =>false
 | .alloc .. =>false
 | .box .. =>false
 | .buildSlice .. =>false
 | .makeMap .. =>false
 | .makeSlice .. =>false
 | .mapUpdate .. =>false
 | .insert .. =>false
 | .lookup .. =>false
 | .mapEntry .. =>false
 | .entryStore .. =>false
 | .convert src dst _=>(match T.U src,T.U dst with
  | some .string,some (.slice _)=>false
  | some (.slice _),some .string=>false
  | _,_=>true)
 | .call c=>(match L8 c with
  | .builtin .len=>true
  | .builtin .max=>true
  | .builtin .min=>true
  | _=>false)
 | _=>true
@[reducible] def isLoad (o:Oper):Bool:=match (Ji o)with
 | .load .. =>true
 | _=>false
def runLoadH:LR->(Qx)->Nat->Nat->(SV->Prop)->Prop
 | .one kd,S,b,off,k=>L1 kd λy=>(∀w',S w'->w'.cell? ⟨b,off,none⟩=some y.val)/\k y
 | .agg ks,S,b,off,k=>ExL ks λxs=>(∀w',S w'->CellsAt w' b off xs)/\k (.ag xs)
 | .list n,S,b,off,k=>∃cs:List Value,cs.length=n/\(∀w',S w'->∀j,j< n->w'.cell? ⟨b,off+j,none⟩=cs[j]?)/\k (.agl cs)
 | .bad,_,_,_,_=>False
def qe (T:dv)(t b off:Nat)(S:Qx)(k:SV->Prop):Prop:=runLoadH (loadR T t) S b off k
inductive HR where
 | at_ (r:LR) (b off:Nat) | val (r:LR) (v:Value) | bad
@[reducible] def hR (T:dv) (e:Env):Op->HR
 | .load t x=>match ev e x with
  | some (.a b off)=> .at_ (loadR T t) b off
  | some (.v val)=> .val (loadR T t) val
  | _=> .bad
 | _=> .bad
def runH:HR->(Qx)->(SV->Prop)->Prop
 | .at_ r b off,S,k=>runLoadH r S b off k
 | .val r v,S,k=>∃b off,v= .pointer (some ⟨b,off,none⟩)/\runLoadH r S b off k
 | .bad,_,_=>False
def ry (T:dv)(e:Env)(o:Oper)(S:Qx)(k:SV->Prop):Prop:=runH (hR T e (Ji o)) S k
def mI (ops:Array Oper)(e:Env)(o:Oper)(run G:Env->Prop):Prop:=guardG (gst ops e (Mv o)) e run G
def HD (X:Nat->Prop):List Nat->Prop
 | []=>True
 | [i]=>X i
 | i::r=>X i/\HD X r
def HD.get {X:Nat->Prop}:∀{r:List Nat},HD X r->∀i∈r,X i
 | [],_,i,hi=>by cases hi
 | [j],h,i,hi=>by
  have:i=j:=by simpa using hi
  subst this;exact h
 | j::G::r,h,i,hi=>by
  cases hi with
  | head=>exact h.1
  | tail _ hi=>exact HD.get (r:=G::r) h.2 i hi
def dI {N:Nat}{ops:Array Oper}{e:Env}{a:Act}{o:Oper}{run β:Env->Prop}{G:Prop}(H:aC N e a)(h:mI ops e o run β)
  (hr:∀e',aC N e' a->run e'->Region.wanted o (yielded ops a.tmps)=true->G) (hs:∀e',aC N e' a->β e'->Region.wanted o (yielded ops a.tmps)=false->G):G:=by
 unfold mI gst at h;split at h
 ·rename_i hg;exact hr e H h (by simp [Region.wanted,hg])
 ·rename_i j want hg;split at h
  ·exact h.elim
  ·rename_i g J;split at h
   ·rename_i Z;exact hr e H h (by rw [wanted_of H hg J Z];rfl)
   ·rename_i Z;exact hr e H h (by rw [wanted_of H hg J Z];rfl)
   ·rename_i Z;exact hs e H h (by rw [wanted_of H hg J Z];rfl)
   ·rename_i Z;exact hs e H h (by rw [wanted_of H hg J Z];rfl)
   ·rename_i Z;exact hs e H h (by rw [wanted_of H hg J Z];rfl)
   ·rename_i x Z;cases x with
    | true=>exact hr _ (H.again (y:= .tt) Z rfl) (h.1 rfl) (by rw [wanted_of H hg J Z];rfl)
    | false=>exact hs _ (H.again (y:= .ff) Z rfl) (h.2 rfl) (by rw [wanted_of H hg J Z];rfl)
   ·rename_i x Z;cases x with
    | false=>exact hr _ (H.again (y:= .ff) Z rfl) (h.1 rfl) (by rw [wanted_of H hg J Z];rfl)
    | true=>exact hs _ (H.again (y:= .tt) Z rfl) (h.2 rfl) (by rw [wanted_of H hg J Z];rfl)
   ·exact h.elim
def qi {T:dv}{a:Act}{o:Oper}{S:Qx}{k:SV->Prop}{t b off:Nat}{x:Operand}(Z:o.op= .load t x)(hx:a.eval x= .pointer (some ⟨b,off,none⟩))(h:qe T t b off S k):
  ∃y,k y/\∀w,S w->(execOp a.eval o).run T.P w= .ok (.value y.val) w:=by
 unfold qe loadR at h;split at h
 ·rename_i G;obtain⟨y,H,h⟩:=h;refine⟨_,h,λw hw=>?_⟩;simp only [execOp,Z,hx,Nl,pC G (H w hw),M9,Nn]
 ··split at h
   ·rename_i ks z n bb G hk hi;split at h
    ·rename_i J;have J:=jK J;rw [lq]at J;obtain⟨xs,hl,H,h⟩:=ExL.get h;refine⟨_,h,λw hw=>?_⟩;simp only [execOp,Z,hx,SV.val,Nl,iJ (cs:=SV.aM xs) (iK G w) hi (by rw [gb,hl,J]) (λj hj=>(H w hw).get j (by omega)),M9,Nn]
    ·exact h.elim
   ·rename_i z n bb G hk hi;obtain⟨cs,hl,H,h⟩:=h;refine⟨_,h,λw hw=>?_⟩;simp only [execOp,Z,hx,SV.val,Nl,iJ (iK G w) hi hl (H w hw),M9,Nn]
   ·exact h.elim
def vK {T:dv}{N:Nat}{e:Env}{a:Act}{o:Oper}{S:Qx}{k:SV->Prop}(G:aC N e a)(h:ry T e o S k):
  ∃y,k y/\∀w,S w->(execOp a.eval o).run T.P w= .ok (.value y.val) w:=by
 unfold ry hR at h;split at h
 ·rename_i t x J;split at h
  ·rename_i b off H;exact qi J (aD G H) h
  ·rename_i val H;obtain⟨b,off,rfl,h⟩:=h;exact qi J (aD G H) h
  ·exact h.elim
 ·exact h.elim
def jG (ops:Array Oper)(j:Nat):Bool:=match ops[j]? with
 | none=>true
 | some G=>(List.range ops.size).any λi=>(match ops[i]? with | some o=>isLoad o | none=>false)&&G.after.toList.all λe=> !(Region.binds .any e)|| !(e.on==i)
def zF {ops:Array Oper}{i j:Nat}{G H:Oper}(hi:ops[i]?=some G)(J:ops[j]?=some H)(Z:isLoad G=true)(hn:∀e∈H.after,Region.binds .any e=true->e.on≠i):jG ops j=true:=by
 unfold jG;simp only [J];refine O7.2 ⟨i,OQ.2 (NL.1 hi).1,?_⟩;simp only [hi,Z,OZ];refine OV.2 λe he=>?_
 have :=hn e (by simpa using he);cases hb:Region.binds .any e with
 | false=>rfl
 | true=>simp [this hb]
def dj (P:Program)(ops:Array Oper)(lt:Nat->Bool)(Q:Exit->Act->Qx)(S:Qx):Nat->Array Bool->Act->Qx
 | 0,G,a,w=>Region.ready .any ops G=[]/\Q .normal a w
 | fuel+1,G,a,w=>
  (Region.ready .any ops G=[]->Q .normal a w)/\
  ∀i∈Region.ready .any ops G,wpOp P ops Q i (λa' w'=>(if lt i=true then w'=w else jG ops i=true->S w')/\dj P ops lt Q S fuel (G.setIfInBounds i true) a' w') a w
def tv {P:Program}{ops:Array Oper}{lt:Nat->Bool}{Q:Exit->Act->Qx}{S:Qx}:∀(fuel:Nat) (G:Array Bool) (a:Act) (w:World),dj P ops lt Q S fuel G a w->wpAny P .any ops Q fuel G a w
 | 0,_,_,_,h=>h
 | fuel+1,_,_,_,h=>⟨h.1,λi hi=>wpOp_mono (λa' w' H=>tv fuel _ a' w' H.2) (h.2 i hi)⟩
def xp {P:Program}{ops:Array Oper}{lt:Nat->Bool}{Q:Exit->Act->Qx}{S:Qx}{i:Nat}{oi:Oper}{v:Value}(hi:ops[i]?=some oi)(η:lt i=true)(δ:∀(j:Nat) (o:Oper) cs b,ops[j]?=some o->o.op≠ .select cs b)
  (hQ:∀c a w,Q (.panic c) (a.put oi.dst v) w->Q (.panic c) a w):
  ∀(fuel:Nat) (G:Array Bool) (a:Act) (w:World),
   (∀j oj,ops[j]?=some oj->j≠i->G.getD j true=false->(∀e∈oj.after,Region.binds .any e=true->e.on≠i)->oi.apart ops oj=true)->
   i∈Region.ready .any ops G->YieldsIf P ops (λw=>isLoad oi=true->S w) oi v a->(isLoad oi=true->S w)->
   dj P ops lt Q S fuel (G.setIfInBounds i true) (a.put oi.dst v) w->dj P ops lt Q S (fuel+1) G a w:=by
 intro fuel
 induction fuel with
 | zero=>
  intro G a w _ hr hy hS H;refine⟨λh=>(by rw [h]at hr;cases hr),λj hj=>?_⟩;by_cases J:j=i
  ·subst J;exact hy.wpOp hi hS ⟨by rw [NO η],H⟩
  ·have :=ready_mono hj J;rw [H.1]at this;cases this
 | succ fuel ih=>
  intro G a w Z hr hy hS H;refine⟨λh=>(by rw [h]at hr;cases hr),λj hj=>?_⟩;by_cases J:j=i
  ·subst J;exact hy.wpOp hi hS ⟨by rw [NO η],H⟩
  ·have h1:=H.2 j (ready_mono hj J);obtain⟨ε,oj,β,θ⟩:=mem_ready.1 hj;have ζ:∀e∈oj.after,Region.binds .any e=true->e.on≠i:=λe he hb heq=>by
    have h1:=θ e he hb;have h0:=(mem_ready.1 hr).1;rw [heq]at h1;rcases ON i G.size with h' | h'
    ·simp [h']at h0 h1;rw [h0]at h1;cases h1
    ·simp [Array.getElem?_eq_none h']at h1
   have h2:=wpOp_putIf β (Z j oj β J ε ζ) (λcs b=>δ i oi cs b hi) (λcs b=>δ j oj cs b β) hQ hy h1;have γ:∀k ok,ops[k]?=some ok->k≠i->(G.setIfInBounds j true).getD k true=false->
     (∀e∈ok.after,Region.binds .any e=true->e.on≠i)->oi.apart ops ok=true:=λk ok hk μ ι ν=>by
    refine Z k ok hk μ ?_ ν;by_cases κ:j=k
    ·subst κ;exact ε
    ·rw [getD_set_ne true κ]at ι;exact ι
   refine wpOp_mono (λa' w' h3=>?_) h2;have ξ:isLoad oi=true->S w':=by
    intro hl;have h4:=h3.2.1;split at h4
    ·rw [h4];exact hS hl
    ·exact h4 (zF hi β hl ζ)
   refine⟨h3.2.1,ih (G.setIfInBounds j true) a' w' γ (ready_mono hr (P' J)) h3.1 ξ ?_⟩;rw [Array.setIfInBounds_comm _ _ J];exact h3.2.2
def ltOf (T:dv)(ops:Array Oper)(i:Nat):Bool:=match ops[i]? with
 | some o=>KL T o||isLoad o
 | none=>false
inductive Ld where
 | h | g | n
 deriving DecidableEq
inductive Pl where
 | done | lt (i:Nat) (p:Pl) | one (k:Ld) (i:Nat) (p:Pl) | br (k:Ld) (i:Nat) (p r:Pl)
def kOk (T:dv)(ops:Array Oper)(late:Bool)(k:Ld)(i:Nat):Bool:=match late,k with
 | false,.h=>true
 | true,.g=> !ltOf T ops i
 | true,.n=> !ltOf T ops i&& !jG ops i
 | _,_=>false
def plC (T:dv)(ops:Array Oper)(late:Bool):Pl->Nat->Array Bool->List Nat->Bool->Bool
 | .done,_,_,q,_=>q.isEmpty
 | .lt i p,f+1,L,q,top=>top&&q.contains i&&Region.free .any ops L i&&(!late||ltOf T ops i)&&plC T ops late p f (L.setIfInBounds i true) (Region.ready .any ops (L.setIfInBounds i true)) true
 | .one k i p,f+1,L,q,_=>q==[i]&&kOk T ops late k i&&plC T ops late p f (L.setIfInBounds i true) (Region.ready .any ops (L.setIfInBounds i true)) true
 | .br k i p r,f+1,L,j::q,_=>j==i&&kOk T ops late k i&&plC T ops late p f (L.setIfInBounds i true) (Region.ready .any ops (L.setIfInBounds i true)) true&&plC T ops late r (f+1) L q false
 | _,_,_,_,_=>false
def runK:Ld->Prop->Prop->Prop
 | .h,s,x=>s/\x
 | .g,s,x=>s/\x
 | .n,_,x=>x
def oT:Ld->Prop->Prop->Prop
 | .h,_,x=>x
 | .g,s,x=>s/\x
 | .n,_,x=>x
def vcP (T:dv)(ops:Array Oper)(S:Qx)(K:Env->Qx):Pl->Env->Qx
 | .done,e,w=>K e w
 | .lt i p,e,w=>optK (mi (mF ops) i) λo=>mI ops e o
   (λG=>boolK (isLoad o) (ry T G o S λy=>bindK (DH o) y G λH=>vcP T ops S K p H w) (yy T G o λy=>bindK (DH o) y G λH=>vcP T ops S K p H w))
   (λG=>bindK (DH o) .un G λH=>vcP T ops S K p H w)
 | .one k i p,e,w=>optK (mi (mF ops) i) λo=>mI ops e o
   (λG=>AK T G o w λy w'=>runK k (S w') (bindK (DH o) y G λH=>vcP T ops S K p H w'))
   (λG=>oT k (S w) (bindK (DH o) .un G λH=>vcP T ops S K p H w))
 | .br k i p r,e,w=>(optK (mi (mF ops) i) λo=>mI ops e o
   (λG=>AK T G o w λy w'=>runK k (S w') (bindK (DH o) y G λH=>vcP T ops S K p H w'))
   (λG=>oT k (S w) (bindK (DH o) .un G λH=>vcP T ops S K p H w)))/\vcP T ops S K r e w
section
variable {T:dv} {N:Nat} {ops:Array Oper} {S:Qx} {K:Env->Qx} {Q0:Exit->Act->Qx}
def wJ (G:okOps N ops.toList=true){i:Nat}{o:Oper}(hi:ops[i]?=some o):(match o.dst with | some d=>decide (d< N) | none=>true)=true/\∀x,o.dst=some x->x∈dsts ops.toList:=by
 have hm:o∈ops.toList:=by
  have :=Array.mem_of_getElem? hi;simpa using this
 exact⟨OV.1 G o hm,λx H=>by rw [CG];exact List.mem_filterMap.2 ⟨o,hm,H⟩⟩
def DG (δ:Region.noSelect ops=true)(ε:okOps N ops.toList=true)(θ:∀c a w,¬Q0 (.panic c) a w):∀(p:Pl) (f:Nat) (L:Array Bool) (q:List Nat) (top:Bool) (e:Env) (a:Act) (w:World),
  plC T ops false p f L q top=true->(top=true->q=Region.ready .any ops L)->aC N e a->S w->vcP T ops S K p e w->
  (∀e' a' w',K e' w'->aC N e' a'->a'.defers=a.defers->da (dsts ops.toList) a a'->Q0 .normal a' w')->
  (top=true->wpAnyH T.P .any ops Q0 S f L a w)/\(top=false->∀f',f=f'+1->∀i∈q,wpOp T.P ops Q0 i (λa' w'=>S w'/\wpAnyH T.P .any ops Q0 S f' (L.setIfInBounds i true) a' w') a w):=by
 have AX:∀{p:Pl} {f:Nat} {L:Array Bool} {a:Act} {i:Nat} {o:Oper} {e1:Env} {y:SV} {w1:World},
   (∀(f:Nat) (L:Array Bool) (q:List Nat) (top:Bool) (e:Env) (a:Act) (w:World),plC T ops false p f L q top=true->(top=true->q=Region.ready .any ops L)->aC N e a->S w->vcP T ops S K p e w->
    (∀e' a' w',K e' w'->aC N e' a'->a'.defers=a.defers->da (dsts ops.toList) a a'->Q0 .normal a' w')->
    (top=true->wpAnyH T.P .any ops Q0 S f L a w)/\(top=false->∀f',f=f'+1->∀i∈q,wpOp T.P ops Q0 i (λa' w'=>S w'/\wpAnyH T.P .any ops Q0 S f' (L.setIfInBounds i true) a' w') a w))->
   (∀e' a' w',K e' w'->aC N e' a'->a'.defers=a.defers->da (dsts ops.toList) a a'->Q0 .normal a' w')->
   ops[i]?=some o->plC T ops false p f (L.setIfInBounds i true) (Region.ready .any ops (L.setIfInBounds i true)) true=true->aC N e1 a->S w1->vcP T ops S K p (bindDst o.dst y e1) w1->
   wpAnyH T.P .any ops Q0 S f (L.setIfInBounds i true) (a.put o.dst y.val) w1:=by
  intro p f L a i o e1 y w1 ih Z hi H G ι h1;refine(ih f _ _ true _ _ _ H (λ _=>rfl) (G.bind (wJ ε hi).1) ι h1 λe' a' w' hk ζ κ μ=>Z e' a' w' hk ζ (κ.trans ?_) ((da.put a o.dst y.val _ (wJ ε hi).2).trans μ)).1 rfl;cases o.dst<;>rfl
 intro p
 induction p with
 | done=>
  intro f L q top e a w H hq J hS h Z;have ν:q=[]:=by simpa [plC]using H
  subst ν;exact⟨λht=>wpAnyH_done (hq ht).symm (Z e a w h J rfl (da.refl _ _)) _,λ _ _ _ i hi=>by cases hi⟩
 | lt i p ih=>
  intro f L q top e a w H hq J hS h Z;cases f with
  | zero=>simp [plC]at H
  | succ f=>
   simp only [plC,M8]at H;obtain⟨⟨⟨⟨ht,β⟩,ξ⟩,_⟩,H⟩:=H;refine⟨λ _=>?_,λh0=>by rw [h0]at ht;cases ht⟩;rw [hq ht]at β;obtain⟨o,hi,h⟩:=bJ h;rw [pw,dL]at hi;have take:∀{v:Value},YieldsIf T.P ops S o v a->wpAnyH T.P .any ops Q0 S f (L.setIfInBounds i true) (a.put o.dst v) w->wpAnyH T.P .any ops Q0 S (f+1) L a w:=by
    intro v hy hw;exact wpAnyH_take hi δ ξ (by simpa using β) (λc a w hq=>absurd hq (θ c _ _)) hy hS hw
   refine dI J h (λe1 G h1 hw=>?_) (λe1 G h1 hw=>?_)
   ·cases η:isLoad o with
    | true=>
     rw [η]at h1;obtain⟨y,hk,hr⟩:=vK G h1;rw [bZ]at hk;exact take (.inl ⟨hw,hr⟩) (AX ih Z hi H G hS hk)
    | false=>
     rw [η]at h1;obtain⟨y,hk,hr⟩:=pure_run G h1;rw [bZ]at hk;exact take (.inl ⟨hw,λw _=>hr w⟩) (AX ih Z hi H G hS hk)
   ·rw [bZ]at h1;exact take (v:=undef) (.inr ⟨hw,rfl⟩) (AX (y:= .un) ih Z hi H G hS h1)
 | one k i p ih=>
  intro f L q top e a w H hq J hS h Z;cases f with
  | zero=>simp [plC]at H
  | succ f=>
   simp only [plC,M8,PI]at H;obtain⟨⟨ο,hk⟩,H⟩:=H;have γ:k= .h:=by cases k<;>first | rfl | cases hk
   subst γ;subst ο;have key:wpOp T.P ops Q0 i (λa' w'=>S w'/\wpAnyH T.P .any ops Q0 S f (L.setIfInBounds i true) a' w') a w:=by
    obtain⟨o,hi,h⟩:=bJ h;rw [pw,dL]at hi;unfold wpOp;simp only [hi];refine dI J h (λe1 G h2 hw=>?_) (λe1 G h2 hw=>?_)
    ·rw [NO hw];left;refine nO G h2 _ _ λy w' hk=>?_
     obtain⟨h3,h4⟩:=hk;rw [bZ]at h4;exact⟨h3,AX ih Z hi H G h3 h4⟩
    ·rw [Nt (by rw [hw];simp)];simp only [oT,bZ]at h2;exact⟨hS,AX (y:= .un) ih Z hi H G hS h2⟩
   refine⟨λht=>wpAnyH_all (hq ht).symm (by simp) λj hj=>?_,λ _ f' hf j hj=>?_⟩
   ·rw [ND.1 hj];exact key
   ·cases hf;rw [ND.1 hj];exact key
 | br k i p r ih ς=>
  intro f L q top e a w H hq J hS h Z;cases f with
  | zero=>simp [plC]at H
  | succ f=>
   cases q with
   | nil=>simp [plC]at H
   | cons j q=>
    simp only [plC,M8,PI]at H;obtain⟨⟨⟨υ,hk⟩,H⟩,φ⟩:=H;have γ:k= .h:=by cases k<;>first | rfl | cases hk
    subst γ;subst υ;obtain⟨h,hr⟩:=h;have key:wpOp T.P ops Q0 j (λa' w'=>S w'/\wpAnyH T.P .any ops Q0 S f (L.setIfInBounds j true) a' w') a w:=by
     obtain⟨o,hi,h⟩:=bJ h;rw [pw,dL]at hi;unfold wpOp;simp only [hi];refine dI J h (λe1 G h2 hw=>?_) (λe1 G h2 hw=>?_)
     ·rw [NO hw];left;refine nO G h2 _ _ λy w' hk=>?_
      obtain⟨h3,h4⟩:=hk;rw [bZ]at h4;exact⟨h3,AX ih Z hi H G h3 h4⟩
     ·rw [Nt (by rw [hw];simp)];simp only [oT,bZ]at h2;exact⟨hS,AX (y:= .un) ih Z hi H G hS h2⟩
    have rest:=(ς (f+1) L q false e a w φ (λh=>by cases h) J hS hr Z).2 rfl f rfl;have all:∀i∈j::q,wpOp T.P ops Q0 i (λa' w'=>S w'/\wpAnyH T.P .any ops Q0 S f (L.setIfInBounds i true) a' w') a w:=by
     intro i hi;cases hi with
     | head=>exact key
     | tail _ hi=>exact rest i hi
    exact⟨λht=>wpAnyH_all (hq ht).symm (by simp) all,λ _ f' hf=>by cases hf;exact all⟩
end
def yG (ops:Array Oper)(S:Qx)(G:Array Bool)(w:World):Prop:=∀l ol,ops[l]?=some ol->isLoad ol=true->G.getD l true=false->S w
def yG.less {ops:Array Oper}{S:Qx}{G:Array Bool}{w:World}(h:yG ops S G w)(j:Nat):yG ops S (G.setIfInBounds j true) w:=by
 intro l ol h1 h2 J;refine h l ol h1 h2 ?_;by_cases H:j=l
 ·subst H;rcases ON j G.size with Z | Z
  ·simp [Array.getD,Z]at J
  ·simp [Array.getD,Nat.not_lt.2 Z]at J
 ·rw [getD_set_ne true H]at J;exact J
section
variable {T:dv} {N:Nat} {ops:Array Oper} {S:Qx} {K:Env->Qx} {Q0:Exit->Act->Qx}
def Ei (θ:Region.noSelect ops=true)(ι:okOps N ops.toList=true)(υ:∀c a w,¬Q0 (.panic c) a w):∀(p:Pl) (f:Nat) (L:Array Bool) (q:List Nat) (top:Bool) (e:Env) (a:Act) (w:World),
  plC T ops true p f L q top=true->(∀i∈q,i∈Region.ready .any ops L)->(top=true->q=Region.ready .any ops L)->aC N e a->yG ops S L w->vcP T ops S K p e w->
  (∀e' a' w',K e' w'->aC N e' a'->a'.defers=a.defers->da (dsts ops.toList) a a'->Q0 .normal a' w')->
  (top=true->dj T.P ops (ltOf T ops) Q0 S f L a w)/\(top=false->∀f',f=f'+1->∀i∈q,wpOp T.P ops Q0 i (λa' w'=>(if ltOf T ops i=true then w'=w else jG ops i=true->S w')/\dj T.P ops (ltOf T ops) Q0 S f' (L.setIfInBounds i true) a' w') a w):=by
 have AX:∀{p:Pl} {f:Nat} {L:Array Bool} {a:Act} {i:Nat} {o:Oper} {e1:Env} {y:SV} {w1:World},
   (∀(f:Nat) (L:Array Bool) (q:List Nat) (top:Bool) (e:Env) (a:Act) (w:World),plC T ops true p f L q top=true->(∀i∈q,i∈Region.ready .any ops L)->(top=true->q=Region.ready .any ops L)->aC N e a->yG ops S L w->vcP T ops S K p e w->
    (∀e' a' w',K e' w'->aC N e' a'->a'.defers=a.defers->da (dsts ops.toList) a a'->Q0 .normal a' w')->
    (top=true->dj T.P ops (ltOf T ops) Q0 S f L a w)/\(top=false->∀f',f=f'+1->∀i∈q,wpOp T.P ops Q0 i (λa' w'=>(if ltOf T ops i=true then w'=w else jG ops i=true->S w')/\dj T.P ops (ltOf T ops) Q0 S f' (L.setIfInBounds i true) a' w') a w))->
   (∀e' a' w',K e' w'->aC N e' a'->a'.defers=a.defers->da (dsts ops.toList) a a'->Q0 .normal a' w')->
   ops[i]?=some o->plC T ops true p f (L.setIfInBounds i true) (Region.ready .any ops (L.setIfInBounds i true)) true=true->aC N e1 a->yG ops S (L.setIfInBounds i true) w1->vcP T ops S K p (bindDst o.dst y e1) w1->
   dj T.P ops (ltOf T ops) Q0 S f (L.setIfInBounds i true) (a.put o.dst y.val) w1:=by
  intro p f L a i o e1 y w1 ih hQ hi H G γ h1;refine(ih f _ _ true _ _ _ H (λ _ h=>h) (λ _=>rfl) (G.bind (wJ ι hi).1) γ h1 λe' a' w' hk κ φ χ=>hQ e' a' w' hk κ (φ.trans ?_) ((da.put a o.dst y.val _ (wJ ι hi).2).trans χ)).1 rfl;cases o.dst<;>rfl
 have alt:∀{k:Ld} {i:Nat} {p:Pl} {f:Nat} {L:Array Bool} {e:Env} {a:Act} {w:World},
   (∀{o:Oper} {e1:Env} {y:SV} {w1:World},ops[i]?=some o->aC N e1 a->yG ops S (L.setIfInBounds i true) w1->vcP T ops S K p (bindDst o.dst y e1) w1->dj T.P ops (ltOf T ops) Q0 S f (L.setIfInBounds i true) (a.put o.dst y.val) w1)->
   kOk T ops true k i=true->i∈Region.ready .any ops L->aC N e a->yG ops S L w->
   (optK (mi (mF ops) i) λo=>mI ops e o (λe'=>AK T e' o w λy w'=>runK k (S w') (bindK (DH o) y e' λe1=>vcP T ops S K p e1 w')) (λe'=>oT k (S w) (bindK (DH o) .un e' λe1=>vcP T ops S K p e1 w)))->
   wpOp T.P ops Q0 i (λa' w'=>(if ltOf T ops i=true then w'=w else jG ops i=true->S w')/\dj T.P ops (ltOf T ops) Q0 S f (L.setIfInBounds i true) a' w') a w:=by
  intro k i p f L e a w next hk ψ J hS h;obtain⟨o,hi,h⟩:=bJ h;rw [pw,dL]at hi;have μ:¬ltOf T ops i=true:=by
   cases k<;>simp [kOk]at hk
   ·rw [hk];simp
   ·rw [hk.1];simp
  have ω:∀{X Y:Prop},runK k X Y->(jG ops i=true->X)/\Y:=by
   intro X Y h;cases k with
   | h=>cases hk
   | g=>exact⟨λ _=>h.1,h.2⟩
   | n=>simp [kOk]at hk;exact⟨λhh=>(by rw [hk.2]at hh;cases hh),h⟩
  have hsk:∀{X Y:Prop},oT k X Y->(jG ops i=true->X)/\Y:=by
   intro X Y h;cases k with
   | h=>cases hk
   | g=>exact⟨λ _=>h.1,h.2⟩
   | n=>simp [kOk]at hk;exact⟨λhh=>(by rw [hk.2]at hh;cases hh),h⟩
  obtain⟨_,oi,ν,ξ⟩:=mem_ready.1 ψ;rw [hi]at ν;cases ν;unfold wpOp;simp only [hi];refine dI J h (λe1 G h2 hw=>?_) (λe1 G h2 hw=>?_)
  ·rw [NO hw];left;refine nO G h2 _ _ λy w' hk=>?_
   obtain⟨ζ,δ⟩:=ω hk;rw [bZ]at δ;rw [Nt μ];have inv:(jG ops i=true->S w')->yG ops S (L.setIfInBounds i true) w':=by
    intro hs l ol k1 k2 k3;refine hs (zF k1 hi k2 λe he hb heq=>?_);have h4:=ξ e he hb;rw [heq]at h4;by_cases ο:i=l
    ·subst ο;rcases ON i L.size with h' | h'
     ·simp [Array.getD,h']at k3
     ·simp [Array.getD,Nat.not_lt.2 h']at k3
    ·rw [getD_set_ne true ο]at k3;rcases ON l L.size with h' | h'
     ·simp [Array.getD,h']at k3 h4;rw [k3]at h4;cases h4
     ·simp [Array.getD,Nat.not_lt.2 h']at k3
   exact⟨ζ,next hi G (inv ζ) δ⟩
  ·rw [Nt (by rw [hw];simp),Nt μ];obtain⟨ζ,δ⟩:=hsk h2;rw [bZ]at δ;exact⟨ζ,next (y:= .un) hi G (hS.less i) δ⟩
 intro p
 induction p with
 | done=>
  intro f L q top e a w H β hq J hS h hQ;have hq0:q=[]:=by simpa [plC]using H
  subst hq0;refine⟨λht=>?_,λ _ _ _ i hi=>by cases hi⟩;have hr:=(hq ht).symm;have ς:=hQ e a w h J rfl (da.refl _ _);cases f with
  | zero=>exact⟨hr,ς⟩
  | succ f=>exact⟨λ _=>ς,λi hi=>by rw [hr]at hi;cases hi⟩
 | lt i p ih=>
  intro f L q top e a w H β hq J hS h hQ;cases f with
  | zero=>simp [plC]at H
  | succ f=>
   simp only [plC,M8]at H;obtain⟨⟨⟨⟨ht,Z⟩,hfr⟩,η⟩,H⟩:=H;have η:ltOf T ops i=true:=by simpa using η
   refine⟨λ _=>?_,λh0=>by rw [h0]at ht;cases ht⟩;rw [hq ht]at Z;have Z:i∈Region.ready .any ops L:=by simpa using Z
   obtain⟨o,hi,h⟩:=bJ h;rw [pw,dL]at hi;have hSi:isLoad o=true->S w:=λε=>hS i o hi ε (mem_ready.1 Z).1
   have take:∀{v:Value},YieldsIf T.P ops (λw=>isLoad o=true->S w) o v a->dj T.P ops (ltOf T ops) Q0 S f (L.setIfInBounds i true) (a.put o.dst v) w->dj T.P ops (ltOf T ops) Q0 S (f+1) L a w:=by
    intro v hy hw;exact xp hi η (Region.noSelect_spec θ) (λc a w hq=>absurd hq (υ c _ _)) f L a w (Region.free_spec hi hfr) Z hy hSi hw
   refine dI J h (λe1 G h1 hw=>?_) (λe1 G h1 hw=>?_)
   ·cases ε:isLoad o with
    | true=>
     rw [ε]at h1;obtain⟨y,hk,hr⟩:=vK G h1;rw [bZ]at hk;exact take (.inl ⟨hw,λw hs=>hr w (hs ε)⟩) (AX ih hQ hi H G (hS.less i) hk)
    | false=>
     rw [ε]at h1;obtain⟨y,hk,hr⟩:=pure_run G h1;rw [bZ]at hk;exact take (.inl ⟨hw,λw _=>hr w⟩) (AX ih hQ hi H G (hS.less i) hk)
   ·rw [bZ]at h1;exact take (v:=undef) (.inr ⟨hw,rfl⟩) (AX (y:= .un) ih hQ hi H G (hS.less i) h1)
 | one k i p ih=>
  intro f L q top e a w H β hq J hS h hQ;cases f with
  | zero=>simp [plC]at H
  | succ f=>
   simp only [plC,M8,PI]at H;obtain⟨⟨hqi,hk⟩,H⟩:=H;subst hqi;have key:=alt (f:=f) (λhi G γ h1=>AX ih hQ hi H G γ h1) hk (β i (by simp)) J hS h;have all:∀j∈[i],wpOp T.P ops Q0 j (λa' w'=>(if ltOf T ops j=true then w'=w else jG ops j=true->S w')/\dj T.P ops (ltOf T ops) Q0 S f (L.setIfInBounds j true) a' w') a w:=by
    intro j hj;rw [ND.1 hj];exact key
   refine⟨λht=>⟨λh0=>?_,λj hj=>all j (by rw [hq ht];exact hj)⟩,λ _ f' hf=>by cases hf;exact all⟩;rw [<-hq ht]at h0;cases h0
 | br k i p r ih ihr=>
  intro f L q top e a w H β hq J hS h hQ;cases f with
  | zero=>simp [plC]at H
  | succ f=>
   cases q with
   | nil=>simp [plC]at H
   | cons j q=>
    simp only [plC,M8,PI]at H;obtain⟨⟨⟨hji,hk⟩,H⟩,hpr⟩:=H;subst hji;obtain⟨h,hr⟩:=h;have key:=alt (f:=f) (λhi G γ h1=>AX ih hQ hi H G γ h1) hk (β j (by simp)) J hS h;have rest:=(ihr (f+1) L q false e a w hpr (λi hi=>β i (by simp [hi])) (λh=>by cases h) J hS hr hQ).2 rfl f rfl;have all:∀i∈j::q,wpOp T.P ops Q0 i (λa' w'=>(if ltOf T ops i=true then w'=w else jG ops i=true->S w')/\dj T.P ops (ltOf T ops) Q0 S f (L.setIfInBounds i true) a' w') a w:=by
     intro i hi;cases hi with
     | head=>exact key
     | tail _ hi=>exact rest i hi
    refine⟨λht=>⟨λh0=>?_,λi hi=>all i (by rw [hq ht];exact hi)⟩,λ _ f' hf=>by cases hf;exact all⟩;rw [<-hq ht]at h0;cases h0
end
inductive XE where
 | normal | exit (id:Nat) | ret
def XE.toExit:XE->Exit
 | .normal=> .normal | .exit id=> .exit id | .ret=> .ret
@[reducible] def KF:Code->Nat
 | .region id _ _=>id
 | .seq a _=>KF a
 | .cond _ a _=>KF a
 | .block _ c=>KF c
 | .loop c=>KF c
 | _=>1000000
@[reducible] def writes:Code->List Nat
 | .region _ ops _=>dsts (mF ops)
 | .seq a b=>zo (writes a) (writes b)
 | .cond _ a b=>zo (writes a) (writes b)
 | .block _ c=>writes c
 | .loop c=>writes c
 | _=>[]
structure Ee where
 loops:Nat->Option (List (Nat×Kd))
 cuts:Nat->Option (List (Nat×Kd))
 late:Nat->Option (Bool×Pl)
@[reducible] def Ee.L (A:Ee) (n:Nat):Option (List (Nat×Kd)):=match A with
 | ⟨l,_,_⟩=>l n
@[reducible] def Ee.C (A:Ee) (n:Nat):Option (List (Nat×Kd)):=match A with
 | ⟨_,c,_⟩=>c n
@[reducible] def Ee.T (A:Ee) (n:Nat):Option (Bool×Pl):=match A with
 | ⟨_,_,t⟩=>t n
@[reducible] def A0 (L:List (Nat×Kd)):List Kd:=mapR Mj L
@[reducible] def valsOf (e:Env):List (Nat×Kd)->Option (List SV)
 | []=>some []
 | (t,_)::L=>match look e t,valsOf e L with
  | some x,some xs=>some (x::xs)
  | _,_=>none
@[reducible] def EW:List (Nat×Kd)->List SV->Env
 | (t,_)::L,x::xs=>(t,x)::EW L xs
 | _,_=>[]
@[reducible] def keepE (ws:List Nat):Env->Env
 | []=>[]
 | (t,x)::e=>match hasR ws t with
  | true=>keepE ws e
  | false=>(t,x)::keepE ws e
def forceE:Env->(Env->Prop)->Prop
 | [],k=>k []
 | x::e,k=>forceE e λG=>k (x::G)
def pV:∀(e:Env) (k:Env->Prop),forceE e k=k e
 | [],_=>rfl
 | x::e,k=>by rw [forceE,pV e]
abbrev CurN:List Kd->Type
 | []=>World->Nat
 | k::L=>k.T->CurN L
def CurN.app:(L:List Kd)->CurN L->List SV->World->Nat
 | [],m,_,w=>m w
 | k::L,m,x::xs,w=>optN (k.un x) λt=>CurN.app L (m t) xs w
 | _::_,_,[],_=>0
def HX (L:List (Nat×Kd))(R:Cur (A0 L))(e:Env)(w:World):Prop:=optK (valsOf e L) λxs=>Cur.app (A0 L) R xs w
def okCode (T:dv)(A:Ee)(N:Nat):Code->Bool
 | .region _ ops false=>okOps N ops.toList
 | .region id ops true=>okOps N ops.toList&&Region.noSelect ops&&(match A.T id with
  | some (late,p)=>plC T ops late p ops.size (Array.replicate ops.size false) (Region.ready .any ops (Array.replicate ops.size false)) true
  | none=>false)
 | .seq a b=>okCode T A N a&&okCode T A N b
 | .cond _ a b=>okCode T A N a&&okCode T A N b
 | .block _ c=>okCode T A N c
 | .loop c=>okCode T A N c
 | _=>true
def xK:XE->Prop->Prop->(Nat->Prop)->Prop
 | .normal,a,_,_=>a
 | .ret,_,b,_=>b
 | .exit i,_,_,k=>k i
def cutK {α:Type}:Option α->Prop->(α->Prop)->Prop
 | none,a,_=>a
 | some x,_,k=>k x
def condK:Option SV->Prop->Prop->Prop
 | some .tt,a,_=>a
 | some .ff,_,b=>b
 | some (.b x),a,b=>(x=true->a)/\(x=false->b)
 | _,_,_=>False
def planK:Option (Bool×Pl)->(Pl->Prop)->Prop
 | some (_,p),k=>k p
 | none,_=>False
def vc (T:dv)(A:Ee):Code->Env->World->(XE->Env->Qx)->Prop
 | .skip,e,w,Q=>Q .normal e w
 | .region _ ops false,e,w,Q=>vcOps T ops (λG w'=>Q .normal G w') (mF ops) e w
 | .region id ops true,e,w,Q=>planK (A.T id) λp=>∃S:Qx,∀w1,w1=w.drew->S w1/\vcP T ops S (λG w'=>Q .normal G w') p e w1
 | .seq a b,e,w,Q=>cutK (A.C (KF b))
   (vc T A a e w λx G w'=>xK x (vc T A b G w' Q) (Q .ret G w') λi=>Q (.exit i) G w')
   (λL=>∃J:Cur (A0 L),(vc T A a e w λx G w'=>xK x (HX L J G w') (Q .ret G w') λi=>Q (.exit i) G w')/\
    AllT (A0 L) λxs=>∀w',Cur.app (A0 L) J xs w'->forceE (zo (EW L xs) (keepE (writes a) e)) λZ=>vc T A b Z w' Q)
 | .cond c a b,e,w,Q=>condK (ev e c) (vc T A a e w Q) (vc T A b e w Q)
 | .block id c,e,w,Q=>vc T A c e w λx G w'=>xK x (Q .normal G w') (Q .ret G w') λi=>boolK (beqR i id) (Q .normal G w') (Q (.exit i) G w')
 | .loop c,e,w,Q=>optK (A.L (KF c)) λL=>∃(I:Cur (A0 L)) (m:CurN (A0 L)),HX L I e w/\AllT (A0 L) λxs=>∀w',Cur.app (A0 L) I xs w'->
    forceE (zo (EW L xs) (keepE (writes c) e)) λZ=>vc T A c Z w' λx H w''=>
     xK x (HX L I H w''/\optK (valsOf H L) λys=>CurN.app (A0 L) m ys w''< CurN.app (A0 L) m xs w') (Q .ret H w'') λi=>Q (.exit i) H w''
 | .exit id,e,w,Q=>Q (.exit id) e w
 | .ret,e,w,Q=>Q .ret e w
 | _,_,_,_=>False
inductive RI where
 | tmp (slot:Nat) (k:Kd)
 | cell (slot t:Nat) (k:Kd)
 | agg (slot t:Nat)
@[reducible] def RI.kd:RI->Kd
 | .tmp _ k=>k
 | .cell _ _ k=>k
 | .agg _ _=> .v
@[reducible] def RI.rv:RI->ResultVar
 | .tmp s _=> .tmp s
 | .cell s t _=> .cell s t
 | .agg s t=> .cell s t
@[reducible] def nC (L:List RI):List Kd:=mapR RI.kd L
@[reducible] def MD (k:Kd):Option SV->Option k.T
 | some x=>k.un x
 | none=>none
def E9 {k:Kd}{x:Option SV}{t:k.T}(h:MD k x=some t):∃y,x=some y/\k.un y=some t:=by
 cases x with
 | none=>cases h
 | some y=>exact⟨y,rfl,h⟩
@[reducible] def adr? (T:dv) (t:Nat):Option SV->Option (Nat×Nat)
 | some (.a b off)=>match single (T.U t)with
  | true=>some (b,off)
  | false=>none
 | _=>none
def adrK:Option (Nat×Nat)->(Nat->Nat->Prop)->Prop
 | some (b,off),k=>k b off
 | none,_=>False
def DM {T:dv}{t:Nat}{x:Option SV}{k:Nat->Nat->Prop}(h:adrK (adr? T t x) k):∃b off,x=some (.a b off)/\single (T.und t)=true/\k b off:=by
 unfold adr? at h;split at h
 ·split at h
  ·exact⟨_,_,rfl,by assumption,h⟩
  ·exact h.elim
 ·exact h.elim
inductive AR where
 | agg (b off:Nat) (ks:List Kd) | list (b off n:Nat) | bad
@[reducible] def aggR (T:dv) (t:Nat):Option SV->AR
 | some (.a b off)=>match yB (T.U t),cellK T t,T.I t with
  | true,some ks,some (_,n,_)=>(match Nat.beq (BI ks) n with
   | true=> .agg b off ks
   | false=> .bad)
  | true,none,some (_,n,_)=> .list b off n
  | _,_,_=> .bad
 | _=> .bad
def runAR:AR->World->(Value->Prop)->Prop
 | .agg b off ks,w,k=>ExL ks λxs=>CellsAt w b off xs/\k (.agg (SV.aM xs).toArray)
 | .list b off n,w,k=>∃cs:List Value,cs.length=n/\(∀j,j< n->w.cell? ⟨b,off+j,none⟩=cs[j]?)/\k (.agg cs.toArray)
 | .bad,_,_=>False
def finR (T:dv):(L:List RI)->Cur (nC L)->Env->Qx
 | [],R,_,w=>R w
 | .tmp s k::L,R,e,w=>optK (MD k (look e s)) λt=>finR T L (R t) e w
 | .cell s t k::L,R,e,w=>adrK (adr? T t (look e s)) λb off=>∃x:k.T,w.cell? ⟨b,off,none⟩=some (k.sv x).val/\finR T L (R x) e w
 | .agg s t::L,R,e,w=>runAR (aggR T t (look e s)) w λv=>finR T L (R v) e w
def fin (T:dv)(L:List RI)(R:Cur (nC L)):XE->Env->Qx
 | .exit _,_,_=>False
 | .normal,e,w=>finR T L R e w
 | .ret,e,w=>finR T L R e w
attribute [go_sem] CurN
def Kd.dec:(k:Kd)->Value->k.T
 | .i,.int _ n=>n
 | .i,_=>0
 | .c,.int _ n=>UInt8.ofNat n.toNat
 | .c,_=>0
 | .w,.int _ n=>UInt32.ofNat n.toNat
 | .w,_=>0
 | .s,.string str=>str.data.toList
 | .s,_=>[]
 | .b,.bool G=>G
 | .b,_=>false
 | .v,x=>x
def Kd.KC (k:Kd)(t:k.T):k.dec (k.sv t).val=t:=by
 cases k
 ·rfl
 ·show UInt8.ofNat ((t.toNat:Int)).toNat=t;simp
 ·show UInt32.ofNat ((t.toNat:Int)).toNat=t;simp
 ·show(ay t).data.toList=t;simp [ay]
 ·rfl
 ·rfl
def Kd.GG (k:Kd)(t:k.T):k.un (k.sv t)=some t:=by cases k<;>rfl
def Typed:List Kd->List SV->Prop
 | [],[]=>True
 | k::L,x::xs=>(∃t:k.T,x=k.sv t)/\Typed L xs
 | _,_=>False
def AllT.get:∀{L:List Kd} {K:List SV->Prop},AllT L K->∀{xs:List SV},Typed L xs->K xs
 | [],K,h,[],_=>h
 | [],K,h,_::_,G=>G.elim
 | k::L,K,h,[],G=>G.elim
 | k::L,K,h,x::xs,G=>by
  obtain⟨⟨t,H⟩,G⟩:=G;subst H;exact AllT.get (h t) G
def canon:∀{L:List Kd} {R:Cur L} {xs:List SV} {w:World},Cur.app L R xs w->
  ∃zs,Typed L zs/\SV.aM zs=SV.aM xs/\Cur.app L R zs w/\∀(m:CurN L) (w':World),CurN.app L m zs w'=CurN.app L m xs w'
 | [],R,[],w,h=>⟨[],trivial,rfl,h,λ _ _=>rfl⟩
 | [],R,_::_,w,h=>h.elim
 | k::L,R,[],w,h=>h.elim
 | k::L,R,x::xs,w,h=>by
  rw [Cur.app]at h;obtain⟨t,G,h⟩:=bJ h
  ·obtain⟨zs,h1,H,J,h4⟩:=canon h;refine⟨k.sv t::zs,⟨⟨t,rfl⟩,h1⟩,by simp [SV.aM,H,Kd.Be G],?_,λm w'=>?_⟩
   ·rw [Cur.app,Kd.GG];exact J
   ·rw [CurN.app,CurN.app,Kd.GG,G];exact h4 _ _
def Reads (a:Act):List (Nat×Kd)->List SV->Prop
 | [],[]=>True
 | (t,_)::L,x::xs=>a.tmps.getD t undef=x.val/\Reads a L xs
 | _,_=>False
def Reads.re {N:Nat}{e:Env}{a:Act}(G:aC N e a):∀{L:List (Nat×Kd)} {xs:List SV},valsOf e L=some xs->Reads a L xs
 | [],xs,h=>by cases h;trivial
 | (t,k)::L,xs,h=>by
  unfold valsOf at h;split at h
  ·rename_i x J h1 H;cases h;exact⟨G.2 _ _ h1,Reads.re G H⟩
  ·cases h
def Reads.congr {a:Act}:∀{L:List (Nat×Kd)} {xs G:List SV},Reads a L xs->SV.aM G=SV.aM xs->Reads a L G
 | [],[],[],_,_=>trivial
 | [],[],_::_,_,h=>by simp [SV.aM]at h
 | _::_,[],_,h,_=>h.elim
 | [],_::_,_,h,_=>h.elim
 | (t,k)::L,x::xs,[],_,h=>by simp [SV.aM]at h
 | (t,k)::L,x::xs,y::G,⟨h1,H⟩,h=>by
  simp only [SV.aM,OC]at h;exact⟨h1.trans h.1.symm,Reads.congr H h.2⟩
def aC.zip {N:Nat}{e:Env}{a:Act}(G:aC N e a):∀{L:List (Nat×Kd)} {xs:List SV},Reads a L xs->aC N (EW L xs++e) a
 | [],[],_=>G
 | [],_::_,h=>h.elim
 | _::_,[],h=>h.elim
 | (t,k)::L,x::xs,⟨h1,J⟩=>by
  have Z:=aC.zip G J;refine⟨G.1,λu y H=>?_⟩;simp only [EW,N6,look]at H;split at H
  ·rename_i heq;have :=jK heq;subst this;cases H;exact h1
  ·exact Z.2 u y H
def p7 {ws:List Nat}{t:Nat}:∀{e:Env} {x:SV},look (keepE ws e) t=some x->t∉ws/\look e t=some x
 | [],x,h=>by simp [keepE,look]at h
 | (u,y)::e,x,h=>by
  unfold keepE at h;split at h
  ·rename_i hu;have :=p7 (e:=e) h;refine⟨this.1,?_⟩;simp only [look];rw [ru]at hu;have G:u∈ws:=by simpa using hu
   have H:u≠t:=λhe=>this.1 (he▸G)
   split
   ·exact absurd (jK (by assumption)) H
   ·exact this.2
  ·rename_i hu;rw [ru]at hu;simp only [look]at h|-;split at h
   ·rename_i heq;have :=jK heq;subst this;exact⟨by simpa using hu,h⟩
   ·exact p7 (e:=e) h
def aC.keep {N:Nat}{e:Env}{a a':Act}{ws:List Nat}(G:aC N e a)(H:da ws a a')(J:a'.tmps.size=N):aC N (keepE ws e) a':=
 ⟨J,λt x Z=>by obtain⟨h1,h2⟩:=p7 Z;rw [H t h1];exact G.2 t x h2⟩
def decs (a:Act):List (Nat×Kd)->List SV
 | []=>[]
 | (t,k)::L=>k.sv (k.dec (a.tmps.getD t undef))::decs a L
def yw {a:Act}:∀{L:List (Nat×Kd)} {xs:List SV},Typed (A0 L) xs->Reads a L xs->decs a L=xs
 | [],[],_,_=>rfl
 | [],_::_,_,h=>h.elim
 | _::_,[],_,h=>h.elim
 | (t,k)::L,x::xs,⟨⟨y,G⟩,H⟩,⟨h1,J⟩=>by
  simp only [decs];rw [yw H J,h1,G,Kd.KC]
def FP {T:dv}{A:Ee}{N:Nat}:∀(c:Code) (e:Env) (a:Act) (w:World) (Q:XE->Env->Qx) (Q':Exit->Act->Qx),
  aC N e a->okCode T A N c=true->vc T A c e w Q->
  (∀x e' a' w',Q x e' w'->aC N e' a'->a'.defers=a.defers->da (writes c) a a'->Q' x.toExit a' w')->c.wp T.P Q' a w:=by
 intro c
 induction c with
 | skip=>intro e a w Q Q' G _ h Z;exact wp_skip (Z .normal e a w h G rfl (da.refl _ _))
 | exit id=>intro e a w Q Q' G _ h Z;exact wp_exit (Z (.exit id) e a w h G rfl (da.refl _ _))
 | ret=>intro e a w Q Q' G _ h Z;exact wp_ret (Z .ret e a w h G rfl (da.refl _ _))
 | region id ops draw=>
  intro e a w Q Q' G H h Z;cases draw with
  | true=>
   unfold vc at h;simp only [okCode,M8]at H;obtain⟨⟨H,ζ⟩,η⟩:=H;cases hT:A.T id with
   | none=>rw [hT]at h;exact h.elim
   | some lp=>
    obtain⟨late,p⟩:=lp;rw [hT]at h η;obtain⟨S,h⟩:=h;obtain⟨hS,h⟩:=h _ rfl;have h1:(Code.region id ops true).wp T.P (λx a' w'=>x= .normal/\Q' .normal a' w') a w:=by
     cases late with
     | true=>exact wp_region_any T.mixed (tv _ _ _ _ ((Ei ζ H (λc a w hq=>by cases hq.1) p _ _ _ true e a _ η (λ _ h=>h) (λ _=>rfl) G (λ _ _ _ _ _=>hS) h λe' a' w' hk β hd hs=>⟨rfl,Z .normal e' a' w' hk β hd hs⟩).1 rfl))
     | false=>exact wp_region_held (S:=S) T.mixed ((DG ζ H (λc a w hq=>by cases hq.1) p _ _ _ true e a _ η (λ _=>rfl) G hS h λe' a' w' hk β hd hs=>⟨rfl,Z .normal e' a' w' hk β hd hs⟩).1 rfl)
    refine wp_mono h1 λx a' w' hx=>?_
    obtain⟨rfl,hx⟩:=hx;exact hx
  | false=>
   unfold vc at h;exact wp_region_list (pB _ _ _ _ G H h λe' a' w' hk β hd hs=>Z .normal e' a' w' hk β hd hs)
 | cond c x y γ δ=>
  intro e a w Q Q' G H h Z;simp only [okCode,M8]at H;have gx:vc T A x e w Q->x.wp T.P Q' a w:=λh=>γ e a w Q Q' G H.1 h λz e' a' w' hz h1 h2 h3=>Z z e' a' w' hz h1 h2 (h3.mono λt ht=>by simp [writes,gV,ht])
  have gy:vc T A y e w Q->y.wp T.P Q' a w:=λh=>δ e a w Q Q' G H.2 h λz e' a' w' hz h1 h2 h3=>Z z e' a' w' hz h1 h2 (h3.mono λt ht=>by simp [writes,gV,ht])
  unfold vc condK at h;split at h
  ·rename_i hc;exact wp_cond_true (aD G hc) (gx h)
  ·rename_i hc;exact wp_cond_false (aD G hc) (gy h)
  ·rename_i b hc;exact wp_cond_split (t:=b) (aD G hc) (λht=>gx (h.1 ht)) (λhf=>gy (h.2 hf))
  ·exact h.elim
 | block id c ih=>
  intro e a w Q Q' G H h Z;refine wp_block (ih e a w _ _ G H h λx e' a' w' hx h1 h2 h3=>?_);cases x with
  | normal=>exact Z .normal e' a' w' hx h1 h2 h3
  | ret=>exact Z .ret e' a' w' hx h1 h2 h3
  | exit i=>
   simp only [XE.toExit,Exit.inBlock];simp only [xK,HL]at hx;cases hi:Nat.beq i id with
   | true=>rw [hi]at hx;rw [NO (jK hi)];exact Z .normal e' a' w' hx h1 h2 h3
   | false=>
    rw [hi]at hx;rw [Nt (λe=>by rw [e,Nat.beq_refl]at hi;cases hi)];exact Z (.exit i) e' a' w' hx h1 h2 h3
 | seq x y γ δ=>
  intro e a w Q Q' G H h Z;simp only [okCode,M8]at H;have sx:∀t,t∈writes x->t∈writes (x.seq y):=λt ht=>by simp [writes,gV,ht]
  have sy:∀t,t∈writes y->t∈writes (x.seq y):=λt ht=>by simp [writes,gV,ht]
  unfold vc at h;cases hL:A.C (KF y)with
  | none=>
   rw [hL]at h;refine wp_seq (γ e a w _ _ G H.1 h λz e' a' w' hz h1 h2 h3=>?_);cases z with
   | normal=>exact δ e' a' w' Q Q' h1 H.2 hz λz' e2 a2 w2 θ k1 k2 k3=>Z z' e2 a2 w2 θ k1 (k2.trans h2) ((h3.mono sx).trans (k3.mono sy))
   | ret=>exact Z .ret e' a' w' hz h1 h2 (h3.mono sx)
   | exit i=>exact Z (.exit i) e' a' w' hz h1 h2 (h3.mono sx)
  | some L=>
   rw [hL]at h;obtain⟨J,hx,hy⟩:=h;refine wp_seq (γ e a w _ _ G H.1 hx λz e' a' w' hz h1 h2 h3=>?_);cases z with
   | normal=>
    obtain⟨xs,ι,hz⟩:=bJ hz
    ·obtain⟨zs,t1,t2,t3,_⟩:=canon hz;have ε:=(Reads.re h1 ι).congr t2;have hy:=hy.get t1 w' t3;rw [pV,gV]at hy;exact δ _ a' w' Q Q' ((G.keep h3 h1.1).zip ε) H.2 hy λz' e2 a2 w2 θ k1 k2 k3=>Z z' e2 a2 w2 θ k1 (k2.trans h2) ((h3.mono sx).trans (k3.mono sy))
   | ret=>exact Z .ret e' a' w' hz h1 h2 (h3.mono sx)
   | exit i=>exact Z (.exit i) e' a' w' hz h1 h2 (h3.mono sx)
 | loop c ih=>
  intro e a w Q Q' G H h Z;unfold vc at h;obtain⟨L,hL,h⟩:=bJ h
  ·obtain⟨I,m,h0,hr⟩:=h;refine wp_loop (λa' w'=>∃xs,Typed (A0 L) xs/\Reads a' L xs/\Cur.app (A0 L) I xs w'/\a'.tmps.size=N/\a'.defers=a.defers/\da (writes c) a a') (λa' w'=>CurN.app (A0 L) m (decs a' L) w') ?_ ?_
   ·obtain⟨xs,ι,h0⟩:=bJ h0
    ·obtain⟨zs,t1,t2,t3,_⟩:=canon h0;exact⟨zs,t1,(Reads.re G ι).congr t2,t3,G.1,rfl,da.refl _ _⟩
   ·rintro a1 w1 ⟨xs,t1,t2,t3,hN,hd,hs⟩
    have hr:=hr.get t1 w1 t3;rw [pV,gV]at hr;refine ih _ a1 w1 _ _ ((G.keep hs hN).zip t2) H hr λz e' a' w' hz h1 h2 h3=>?_
    cases z with
    | normal=>
     obtain⟨κ,μ⟩:=hz;obtain⟨ys,ν,κ⟩:=bJ κ
     ·rw [ν]at μ;obtain⟨zs,u1,u2,u3,u4⟩:=canon κ;have ε:=(Reads.re h1 ν).congr u2;refine⟨⟨zs,u1,ε,u3,h1.1,h2.trans hd,hs.trans h3⟩,?_⟩;rw [yw u1 ε,yw t1 t2,u4];exact μ
    | ret=>exact Z .ret e' a' w' hz h1 (h2.trans hd) (hs.trans h3)
    | exit i=>exact Z (.exit i) e' a' w' hz h1 (h2.trans hd) (hs.trans h3)
 | rangeFunc=>intro e a w Q Q' G _ h Z;exact h.elim
 | scope=>intro e a w Q Q' G _ h Z;exact h.elim
 | label=>intro e a w Q Q' G _ h Z;exact h.elim
 | goto=>intro e a w Q Q' G _ h Z;exact h.elim
 | refuse=>intro e a w Q Q' G _ h Z;exact h.elim
def A8:∀{L:List Kd} {R:Cur L} {xs:List SV} {w:World} (acc G:List SV),Cur.app L R xs w->SV.aM G=SV.aM acc->
  j5 L R G (.returned (valOf (acc++xs))) w
 | [],R,[],w,acc,G,h,ha=>by
  refine⟨?_,h⟩;rw [NM,jE ha,<-jE rfl]
 | [],R,_::_,w,acc,G,h,ha=>h.elim
 | k::L,R,[],w,acc,G,h,ha=>h.elim
 | k::L,R,x::xs,w,acc,G,h,ha=>by
  rw [Cur.app]at h;obtain⟨t,H,h⟩:=bJ h
  ·refine⟨t,?_⟩;have app:∀(p q:List SV),SV.aM (p++q)=SV.aM p++SV.aM q:=by
    intro p q;induction p with
    | nil=>rfl
    | cons y p J=>simp [SV.aM,J]
   have :=A8 (acc++[x]) (G++[k.sv t]) h (by rw [app,app,ha];simp [SV.aM,Kd.Be H]);simpa using this
@[reducible] def ai:Nat->List SV->Env
 | _,[]=>[]
 | n,x::xs=>(n,x)::ai (n+1) xs
def vX:∀{xs:List SV} {n t:Nat} {x:SV},look (ai n xs) t=some x->∃j,t=n+j/\xs[j]?=some x
 | [],n,t,x,h=>by simp [ai,look]at h
 | y::H,n,t,x,h=>by
  simp only [ai,look]at h;split at h
  ·rename_i heq;have :=jK heq;subst this;cases h;exact⟨0,rfl,rfl⟩
  ·obtain⟨j,h1,G⟩:=vX h;exact⟨j+1,by omega,by simpa using G⟩
def zt:∀{l:List SV} {j:Nat} {z:SV},l[j]?=some z->(SV.aM l)[j]?=some z.val
 | [],j,z,h=>by simp at h
 | p::l,0,z,h=>by simp at h;subst h;rfl
 | p::l,j+1,z,h=>by simp at h;simpa [SV.aM]using zt h
def zH:∀(l:List SV),(SV.aM l).length=l.length
 | []=>rfl
 | _::l=>by simp [SV.aM,zH l]
def ox {T:dv}{N:Nat}{e:Env}{a:Act}{w:World}(G:aC N e a){g:ResultVar->Sem Value}
  (J:∀t,g (.tmp t)=pure (a.tmps.getD t undef)) (H:∀b t,g (.cell b t)=(do loadVar t (<-asAddr (a.tmps.getD b undef)))):
  ∀{L:List RI} {R:Cur (nC L)},finR T L R e w->∃xs,Cur.app (nC L) R xs w/\(List.mapM g (L.map RI.rv)).run T.P w= .ok (SV.aM xs) w
 | [],R,h=>⟨[],h,by simp [SV.aM]⟩
 | .tmp s k::L,R,h=>by
  rw [finR]at h;obtain⟨t,ht,h⟩:=bJ h
  ·obtain⟨x,hx,γ⟩:=E9 ht;obtain⟨xs,h1,h2⟩:=ox G J H h;refine⟨x::xs,?_,?_⟩
   ·show Cur.app (k::nC L) R (x::xs) w;rw [Cur.app,γ];exact h1
   ·simp only [NI,List.mapM_cons,RI.rv,J,Nl,Nn,M9,h2,SV.aM,G.2 _ _ hx]
 | .cell s t k::L,R,h=>by
  rw [finR]at h;obtain⟨b,off,hx,hs,h⟩:=DM h
  ·obtain⟨x,hc,h⟩:=h;obtain⟨xs,h1,h2⟩:=ox G J H h;refine⟨k.sv x::xs,?_,?_⟩
   ·show Cur.app (k::nC L) R (k.sv x::xs) w;rw [Cur.app,Kd.GG];exact h1
   ·have Z:=pC hs hc;simp only [Instr.loadAt,Instr.sureAddr,Nl,Nn,M9]at Z;have hv:=G.2 _ _ hx;simp only [NI,List.mapM_cons,RI.rv,H,Nl,Nn,M9,hv,SV.val,asAddr,Z,h2,SV.aM]
 | .agg s t::L,R,h=>by
  rw [finR]at h;unfold aggR at h;split at h
  ·rename_i b off hx;have key:yB (T.und t)=true->∀{n bb:Nat} {z:Value} {cs:List Value},T.inf t=some (z,n,bb)->cs.length=n->(∀j,j< n->w.cell? ⟨b,off+j,none⟩=cs[j]?)->finR T L (R (.agg cs.toArray)) e w->
     ∃xs,Cur.app (nC (.agg s t::L)) R xs w/\(List.mapM g ((.agg s t::L).map RI.rv)).run T.P w= .ok (SV.aM xs) w:=by
    intro hs n bb z cs hi Z hc h;obtain⟨xs,h1,h2⟩:=ox G J H h;refine⟨.v (.agg cs.toArray)::xs,h1,?_⟩;have β:=iJ (iK hs w) hi Z hc;simp only [Instr.loadAt,Instr.sureAddr,Nl,Nn,M9]at β;have hv:=G.2 _ _ hx;simp only [NI,List.mapM_cons,RI.rv,H,Nl,Nn,M9,hv,SV.val,asAddr,β,h2,SV.aM]
   split at h
   ·rename_i ks z n bb hs hk hi;split at h
    ·rename_i hn;have hn:=jK hn;rw [lq]at hn;obtain⟨ys,Z,hc,h⟩:=ExL.get h;exact key hs hi (by rw [gb,Z,hn]) (λj hj=>hc.get j (by omega)) h
    ·exact h.elim
   ·rename_i z n bb hs hk hi;obtain⟨cs,Z,hc,h⟩:=h;exact key hs hi Z hc h
   ·exact h.elim
  ·exact h.elim
def qh {T:dv}{N:Nat}{e:Env}{a:Act}{fn:Func}{L:List RI}{R:Cur (nC L)}{w:World}(G:aC N e a)(hr:fn.results=(L.map RI.rv).toArray)(h:finR T L R e w):
  ∃xs,Cur.app (nC L) R xs w/\(results fn a.tmps).run T.P w= .ok (valOf xs) w:=by
 unfold results;rw [hr,List.mapM_toArray];simp only [Nl,Sem.run_map];obtain⟨xs,h1,H⟩:=ox G (g:=λ| ResultVar.tmp t=>pure (a.tmps.getD t undef) | .cell b t=>do loadVar t (<-asAddr (a.tmps.getD b undef))) (λ _=>rfl) (λ _ _=>rfl) h;refine⟨xs,h1,?_⟩;have J:(List.mapM (m:=Sem) (λx=>match x with | ResultVar.tmp t=>pure (a.tmps.getD t undef) | .cell b t=>do let __do_lift<-asAddr (a.tmps.getD b undef);loadVar t __do_lift) (L.map RI.rv)).run T.P w= .ok (SV.aM xs) w:=H
 erw [J]
 simp only [M9,Nn]
 congr 1
 match xs with
 | []=>rfl
 | [x]=>rfl
 | x::y::Z=>rfl
def qw {T:dv}(A:Ee){f:Nat}{fn:Func}{c:Code}{N:Nat}{args:List SV}(L:List RI){R:Cur (nC L)}{w:World}
  (hf:T.P.funcs[f]?=some fn) (hb:fn.body=some c) (hn:fn.ntmps=N) (hr:fn.results=(L.map RI.rv).toArray)
  (G:(okCode T A N c&&decide (args.length<=N))=true) (h:vc T A c (ai 0 args) w (fin T L R)):Calls T.P f (SV.aM args).toArray w (ax (nC L) R):=by
 simp only [M8,Nj]at G;refine calls_of_wp hf hb (FP c _ _ w _ _ ⟨?_,?_⟩ G.1 h ?_)
 ·have :=G.2;simp [zH,hn];omega
 ·intro t x H;obtain⟨j,hj,H⟩:=vX H;have h1:=zt H;have Z:j< (SV.aM args).length:=by
   rcases ON j (SV.aM args).length with h | h
   ·exact h
   ·rw [O1 h]at h1;cases h1
  have:t=j:=by omega
  subst this;simp only [Array.getD_eq_getD_getElem?];rw [Array.getElem?_append_left (by simpa using Z),PW,h1];rfl
 ·intro x e' a' w' H J hd hs;cases x with
  | exit i=>exact H.elim
  | normal=>
   obtain⟨xs,h1,h2⟩:=qh J hr H;exact⟨hd,_,h2,A8 [] [] h1 rfl⟩
  | ret=>
   obtain⟨xs,h1,h2⟩:=qh J hr H;exact⟨hd,_,h2,A8 [] [] h1 rfl⟩
set_option linter.unusedVariables false
set_option linter.constructorNameAsVariable false
def xM (a b c d):type_of% (@bindK.eq_1 a b c d):=rfl
def wW (a b c):type_of% (@bindK.eq_2 a b c):=rfl
def yY (a b c):type_of% (@optK.eq_1 a b c):=rfl
def zG (a b c):type_of% (@optN.eq_1 a b c):=rfl
def zD (a b):type_of% (@optN.eq_2 a b):=rfl
def yr (a b):type_of% (@boolK.eq_1 a b):=rfl
def wT (a b):type_of% (@boolK.eq_2 a b):=rfl
def uF (a b c):type_of% (@guardG.eq_1 a b c):=rfl
def uE (a b c):type_of% (@guardG.eq_2 a b c):=rfl
def uD (a b c d e):type_of% (@guardG.eq_3 a b c d e):=rfl
def uU (a b c d e):type_of% (@guardG.eq_4 a b c d e):=rfl
def ya (a b c d e):type_of% (@vcOps.eq_1 a b c d e):=rfl
def wR (a b c d e f g):type_of% (@vcOps.eq_2 a b c d e f g):=rfl
def qK (a b c d e):type_of% (@runLoadH.eq_1 a b c d e):=rfl
def qO (a b c d e):type_of% (@runLoadH.eq_2 a b c d e):=rfl
def qP (a b c d e):type_of% (@runLoadH.eq_3 a b c d e):=rfl
def pJ (a b c d e f):type_of% (@qe.eq_1 a b c d e f):=rfl
def yU (a b c d e):type_of% (@runH.eq_1 a b c d e):=rfl
def zr (a b c d):type_of% (@runH.eq_2 a b c d):=rfl
def r9 (a b c d e):type_of% (@ry.eq_1 a b c d e):=rfl
def uz (a b c d e):type_of% (@mI.eq_1 a b c d e):=rfl
def Ai (a b):type_of% (@runK.eq_1 a b):=rfl
def zz (a b):type_of% (@runK.eq_2 a b):=rfl
def yS (a b):type_of% (@runK.eq_3 a b):=rfl
def xk (a b):type_of% (@oT.eq_1 a b):=rfl
def wO (a b):type_of% (@oT.eq_2 a b):=rfl
def xu (a b):type_of% (@oT.eq_3 a b):=rfl
def AV (a b c d e f):type_of% (@vcP.eq_1 a b c d e f):=rfl
def Bi (a b c d e f g h):type_of% (@vcP.eq_2 a b c d e f g h):=rfl
def Bf (a b c d e f g h i):type_of% (@vcP.eq_3 a b c d e f g h i):=rfl
def Bl (a b c d e f g h i j):type_of% (@vcP.eq_4 a b c d e f g h i j):=rfl
def xQ (a b c):type_of% (@planK.eq_1 a b c):=rfl
def Dw (a b c):type_of% (@xK.eq_1 a b c):=rfl
def Ed (a b c):type_of% (@xK.eq_2 a b c):=rfl
def D1 (a b c d):type_of% (@xK.eq_3 a b c d):=rfl
def Ax (a b c):type_of% (@cutK.eq_1 a b c):=rfl
def Am (a b c d):type_of% (@cutK.eq_2 a b c d):=rfl
def wH (a b):type_of% (@condK.eq_1 a b):=rfl
def yd (a b):type_of% (@condK.eq_2 a b):=rfl
def wE (a b c):type_of% (@condK.eq_3 a b c):=rfl
def El (a b c d e):type_of% (@vc.eq_1 a b c d e):=rfl
def DW (a b c d e f g):type_of% (@vc.eq_2 a b c d e f g):=rfl
def DL (a b c d e f g):type_of% (@vc.eq_3 a b c d e f g):=rfl
def DF (a b c d e f g):type_of% (@vc.eq_4 a b c d e f g):=rfl
def Ea (a b c d e f g h):type_of% (@vc.eq_5 a b c d e f g h):=rfl
def DO (a b c d e f g):type_of% (@vc.eq_6 a b c d e f g):=rfl
def DU (a b c d e f):type_of% (@vc.eq_7 a b c d e f):=rfl
def Dx (a b c d e f):type_of% (@vc.eq_8 a b c d e f):=rfl
def DC (a b c d e):type_of% (@vc.eq_9 a b c d e):=rfl
def ud (a):type_of% (@forceE.eq_1 a):=rfl
def uS (a b c):type_of% (@forceE.eq_2 a b c):=rfl
def Ab (a b c d):type_of% (@HX.eq_1 a b c d):=rfl
def y3 (a b c):type_of% (@adrK.eq_1 a b c):=rfl
def yb (a b c d e):type_of% (@runAR.eq_1 a b c d e):=rfl
def xP (a b c d e):type_of% (@runAR.eq_2 a b c d e):=rfl
def zl (a b c d):type_of% (@finR.eq_1 a b c d):=rfl
def yX (a b c d e f g):type_of% (@finR.eq_2 a b c d e f g):=rfl
def Ae (a b c d e f g h):type_of% (@finR.eq_3 a b c d e f g h):=rfl
def zO (a b c d e f g):type_of% (@finR.eq_4 a b c d e f g):=rfl
def BJ (a b c d e):type_of% (@fin.eq_2 a b c d e):=rfl
def BW (a b c d e):type_of% (@fin.eq_3 a b c d e):=rfl
def qW (a b c):type_of% (@CurN.app.eq_1 a b c):=rfl
def qS (a b c d e f):type_of% (@CurN.app.eq_2 a b c d e f):=rfl
def qN (a b c d):type_of% (@CurN.app.eq_3 a b c d):=rfl
def Ar (a b c d e):type_of% (@AK.eq_1 a b c d e):=rfl
def yH (a b c d):type_of% (@runOR.eq_1 a b c d):=rfl
def xJ (a b c d e):type_of% (@runOR.eq_2 a b c d e):=rfl
def yE (a b c d):type_of% (@runOR.eq_3 a b c d):=rfl
def wF (a b c d e f):type_of% (@runOR.eq_4 a b c d e f):=rfl
def xf (a b c d e):type_of% (@runOR.eq_5 a b c d e):=rfl
def yI (a b c d e f):type_of% (@runOR.eq_6 a b c d e f):=rfl
def wD (a b c d e):type_of% (@runOR.eq_7 a b c d e):=rfl
def yK (a b c d e):type_of% (@runOR.eq_8 a b c d e):=rfl
def yc (a b c):type_of% (@runOR.eq_9 a b c):=rfl
def uR (a b c d e f g):type_of% (@runOR.eq_10 a b c d e f g):=rfl
def uf (a b c d e f g):type_of% (@runOR.eq_11 a b c d e f g):=rfl
def uO (a b c d e f):type_of% (@runOR.eq_12 a b c d e f):=rfl
def uc (a b c d e f):type_of% (@runOR.eq_13 a b c d e f):=rfl
def ux (a b c d e f g h i):type_of% (@runOR.eq_14 a b c d e f g h i):=rfl
def uJ (a b c d e):type_of% (@runOR.eq_15 a b c d e):=rfl
def ue (a b c d e):type_of% (@runOR.eq_16 a b c d e):=rfl
def uP (a b c d e):type_of% (@runOR.eq_17 a b c d e):=rfl
def uo (a b c d e f g):type_of% (@runOR.eq_18 a b c d e f g):=rfl
def uI (a b c d e f g h):type_of% (@runOR.eq_19 a b c d e f g h):=rfl
def uV (a b c d e):type_of% (@runOR.eq_20 a b c d e):=rfl
def uN (a b c d e f):type_of% (@runOR.eq_21 a b c d e f):=rfl
def uj (a b c d e f):type_of% (@runOR.eq_22 a b c d e f):=rfl
def uG (a b c d):type_of% (@yy.eq_1 a b c d):=rfl
def wq (a b):type_of% (@runPR.eq_1 a b):=rfl
def wK (a b c):type_of% (@runPR.eq_2 a b c):=rfl
def xW (a b c):type_of% (@runPR.eq_3 a b c):=rfl
def xC (a b):type_of% (@runPR.eq_4 a b):=rfl
def xq (a b):type_of% (@runPR.eq_5 a b):=rfl
def yx (a b):type_of% (@runPR.eq_6 a b):=rfl
def yi (a b):type_of% (@runPR.eq_7 a b):=rfl
def xn (a b c):type_of% (@runPR.eq_8 a b c):=rfl
def xY (a b c d):type_of% (@runPR.eq_9 a b c d):=rfl
def uT (a b c d e):type_of% (@runPR.eq_10 a b c d e):=rfl
def uM (a b):type_of% (@runPR.eq_11 a b):=rfl
def ug (a b c d):type_of% (@runPR.eq_12 a b c d):=rfl
def uA (a b):type_of% (@runPR.eq_13 a b):=rfl
def uv (a b):type_of% (@runPR.eq_14 a b):=rfl
def qB (a b c d e f):type_of% (@sF.eq_1 a b c d e f):=rfl
def rW (a b c d e):type_of% (@runLoad.eq_1 a b c d e):=rfl
def rZ (a b c d e):type_of% (@runLoad.eq_2 a b c d e):=rfl
def tJ (a b c d e):type_of% (@runLoad.eq_3 a b c d e):=rfl
def pj (a b c d e f g):type_of% (@pk.eq_1 a b c d e f g):=rfl
def qC (a b c d e):type_of% (@runStore.eq_1 a b c d e):=rfl
def qQ (a b c d e f):type_of% (@runStore.eq_2 a b c d e f):=rfl
def qV (a b c d e f):type_of% (@runStore.eq_3 a b c d e f):=rfl
def qJ (a b c d e f g):type_of% (@tY.eq_1 a b c d e f g):=rfl
def BS (a b):type_of% (@L1.eq_1 a b):=rfl
def BA (a):type_of% (@ExL.eq_1 a):=rfl
def B2 (a b c):type_of% (@ExL.eq_2 a b c):=rfl
def B6 (a b):type_of% (@okC.eq_1 a b):=rfl
def BL (a b):type_of% (@okC.eq_2 a b):=rfl
def BE (a b):type_of% (@okC.eq_3 a b):=rfl
def Cc (a b):type_of% (@okC.eq_4 a b):=rfl
def Bq (a b):type_of% (@okC.eq_5 a b):=rfl
def AU (a b):type_of% (@okC.eq_6 a b):=rfl
def A6 (a):type_of% (@okC.eq_7 a):=rfl
def A5 (a):type_of% (@okC.eq_8 a):=rfl
def A9 (a b c):type_of% (@okC.eq_9 a b c):=rfl
def zc (a b):type_of% (@okC.eq_10 a b):=rfl
def yV (a b):type_of% (@okC.eq_11 a b):=rfl
def Aj (a b):type_of% (@okC.eq_12 a b):=rfl
def yu (a b):type_of% (@oneOk.eq_1 a b):=rfl
def wL (a b):type_of% (@oneOk.eq_2 a b):=rfl
def wS (a b):type_of% (@oneOk.eq_3 a b):=rfl
def xT (a b):type_of% (@oneOk.eq_4 a b):=rfl
def wX (a b):type_of% (@oneOk.eq_5 a b):=rfl
def xd (a b):type_of% (@oneOk.eq_6 a b):=rfl
def xG (a):type_of% (@oneOk.eq_7 a):=rfl
def yD (a):type_of% (@oneOk.eq_8 a):=rfl
def xz (a b c):type_of% (@oneOk.eq_9 a b c):=rfl
def uX (a b):type_of% (@oneOk.eq_10 a b):=rfl
def uu (a):type_of% (@okAllC.eq_1 a):=rfl
def u0 (a b c d):type_of% (@okAllC.eq_2 a b c d):=rfl
def uQ (a b):type_of% (@forceL.eq_1 a b):=rfl
def uy (a b c d):type_of% (@forceL.eq_2 a b c d):=rfl
def rO (a b):type_of% (@Cur.app.eq_1 a b):=rfl
def tw (a b c d e f):type_of% (@Cur.app.eq_2 a b c d e f):=rfl
def uK (a):type_of% (@Cur.mk.eq_1 a):=rfl
def uY (a b c):type_of% (@Cur.mk.eq_2 a b c):=rfl
def Af (a):type_of% (@AllT.eq_1 a):=rfl
def zU (a b c):type_of% (@AllT.eq_2 a b c):=rfl
attribute [go_sem ↓] xM wW yY zG zD yr wT uF uE uD uU ya wR qK qO qP pJ yU zr r9 uz Ai zz yS xk wO xu AV Bi Bf Bl xQ Dw Ed D1 Ax Am wH yd wE El DW DL DF Ea DO DU Dx DC ud uS Ab y3 yb xP zl yX Ae zO BJ BW qW qS qN Ar yH xJ yE wF xf yI wD yK yc uR uf uO uc ux uJ ue uP uo uI uV uN uj uG wq wK xW xC xq yx yi xn xY uT uM ug uA uv qB rW rZ tJ pj qC qQ qV qJ BS BA B2 B6 BL BE Cc Bq AU A6 A5 A9 zc yV Aj yu wL wS xT wX xd xG yD xz uX uu u0 uQ uy rO tw uK uY Af zU
@[reducible] noncomputable def Ik:List (Nat×TypeDesc):=[(3,(TypeDesc.int IntKind.i64)),
 (9,TypeDesc.string),
 (5,(TypeDesc.int IntKind.u8)),
 (4,TypeDesc.bool),
 (0,(TypeDesc.tuple #[])),
 (1,(TypeDesc.func #[] #[] false)),
 (21,(TypeDesc.int IntKind.i32)),
 (22,(TypeDesc.slice 9)),
 (23,(TypeDesc.tuple #[22,4])),
 (25,(TypeDesc.func #[22,22] #[4] false)),
 (31,(TypeDesc.slice 22)),
 (32,(TypeDesc.tuple #[31,4])),
 (39,(TypeDesc.func #[9] #[4] false)),
 (43,(TypeDesc.tuple #[9,4])),
 (45,(TypeDesc.pointer 61)),
 (46,(TypeDesc.tuple #[45,4])),
 (51,(TypeDesc.pointer 53)),
 (53,(TypeDesc.struct #[{name:= "list",type:=22,offset:=0,embedded:=false,tag:= "",pkgPath:= "loop.example/g01175/impl",byteOffset:=0},{name:= "bad",type:=4,offset:=1,embedded:=false,tag:= "",pkgPath:= "loop.example/g01175/impl",byteOffset:=24}])),
 (58,(TypeDesc.struct #[{name:= "next",type:=3,offset:=0,embedded:=false,tag:= "",pkgPath:= "loop.example/g01175/impl",byteOffset:=0}])),
 (59,(TypeDesc.pointer 129)),
 (61,(TypeDesc.struct #[{name:= "maker",type:=58,offset:=0,embedded:=true,tag:= "",pkgPath:= "loop.example/g01175/impl",byteOffset:=0},{name:= "text",type:=9,offset:=1,embedded:=false,tag:= "",pkgPath:= "loop.example/g01175/impl",byteOffset:=8},{name:= "l",type:=59,offset:=2,embedded:=false,tag:= "",pkgPath:= "loop.example/g01175/impl",byteOffset:=24}])),
 (64,(TypeDesc.pointer 70)),
 (65,(TypeDesc.tuple #[64,4])),
 (68,(TypeDesc.slice 64)),
 (70,(TypeDesc.struct #[{name:= "kind",type:=5,offset:=0,embedded:=false,tag:= "",pkgPath:= "loop.example/g01175/impl",byteOffset:=0},{name:= "a",type:=5,offset:=1,embedded:=false,tag:= "",pkgPath:= "loop.example/g01175/impl",byteOffset:=1},{name:= "b",type:=5,offset:=2,embedded:=false,tag:= "",pkgPath:= "loop.example/g01175/impl",byteOffset:=2},{name:= "kids",type:=68,offset:=3,embedded:=false,tag:= "",pkgPath:= "loop.example/g01175/impl",byteOffset:=8}])),
 (73,(TypeDesc.slice 96)),
 (74,(TypeDesc.tuple #[73,4])),
 (77,(TypeDesc.pointer 79)),
 (79,(TypeDesc.struct #[{name:= "list",type:=31,offset:=0,embedded:=false,tag:= "",pkgPath:= "loop.example/g01175/impl",byteOffset:=0},{name:= "wrong",type:=22,offset:=1,embedded:=false,tag:= "",pkgPath:= "loop.example/g01175/impl",byteOffset:=24},{name:= "bad",type:=4,offset:=2,embedded:=false,tag:= "",pkgPath:= "loop.example/g01175/impl",byteOffset:=48}])),
 (89,(TypeDesc.tuple #[5,4])),
 (91,(TypeDesc.int IntKind.u32)),
 (96,(TypeDesc.struct #[{name:= "label",type:=9,offset:=0,embedded:=false,tag:= "",pkgPath:= "loop.example/g01175/spec",byteOffset:=0},{name:= "result",type:=9,offset:=1,embedded:=false,tag:= "",pkgPath:= "loop.example/g01175/spec",byteOffset:=16}])),
 (107,(TypeDesc.slice 5)),
 (113,(TypeDesc.array 26 3)),
 (116,(TypeDesc.tuple #[9,9])),
 (119,(TypeDesc.slice 122)),
 (122,(TypeDesc.struct #[{name:= "kind",type:=5,offset:=0,embedded:=false,tag:= "",pkgPath:= "loop.example/g01175/spec",byteOffset:=0},{name:= "over",type:=5,offset:=1,embedded:=false,tag:= "",pkgPath:= "loop.example/g01175/spec",byteOffset:=1},{name:= "name",type:=5,offset:=2,embedded:=false,tag:= "",pkgPath:= "loop.example/g01175/spec",byteOffset:=2},{name:= "rest",type:=9,offset:=3,embedded:=false,tag:= "",pkgPath:= "loop.example/g01175/spec",byteOffset:=8},{name:= "stays",type:=4,offset:=4,embedded:=false,tag:= "",pkgPath:= "loop.example/g01175/spec",byteOffset:=24}])),
 (126,(TypeDesc.slice 3)),
 (127,(TypeDesc.slice 130)),
 (129,(TypeDesc.struct #[{name:= "own",type:=126,offset:=0,embedded:=false,tag:= "",pkgPath:= "loop.example/g01175/impl",byteOffset:=0},{name:= "threads",type:=127,offset:=1,embedded:=false,tag:= "",pkgPath:= "loop.example/g01175/impl",byteOffset:=24}])),
 (130,(TypeDesc.pointer 191)),
 (131,(TypeDesc.slice 134)),
 (134,(TypeDesc.struct #[{name:= "kind",type:=5,offset:=0,embedded:=false,tag:= "",pkgPath:= "loop.example/g01175/impl",byteOffset:=0},{name:= "a",type:=3,offset:=1,embedded:=false,tag:= "",pkgPath:= "loop.example/g01175/impl",byteOffset:=8},{name:= "b",type:=3,offset:=2,embedded:=false,tag:= "",pkgPath:= "loop.example/g01175/impl",byteOffset:=16},{name:= "rest",type:=59,offset:=3,embedded:=false,tag:= "",pkgPath:= "loop.example/g01175/impl",byteOffset:=24},{name:= "again",type:=4,offset:=4,embedded:=false,tag:= "",pkgPath:= "loop.example/g01175/impl",byteOffset:=32}])),
 (137,(TypeDesc.pointer 139)),
 (139,(TypeDesc.struct #[{name:= "s",type:=9,offset:=0,embedded:=false,tag:= "",pkgPath:= "loop.example/g01175/impl",byteOffset:=0},{name:= "at",type:=3,offset:=1,embedded:=false,tag:= "",pkgPath:= "loop.example/g01175/impl",byteOffset:=16},{name:= "bad",type:=4,offset:=2,embedded:=false,tag:= "",pkgPath:= "loop.example/g01175/impl",byteOffset:=24}])),
 (141,(TypeDesc.pointer 58)),
 (145,(TypeDesc.slice 149)),
 (147,(TypeDesc.func #[3] #[9,4] false)),
 (149,(TypeDesc.struct #[{name:= "over",type:=3,offset:=0,embedded:=false,tag:= "",pkgPath:= "loop.example/g01175/impl",byteOffset:=0},{name:= "give",type:=147,offset:=1,embedded:=false,tag:= "",pkgPath:= "loop.example/g01175/impl",byteOffset:=8}])),
 (172,(TypeDesc.func #[3] #[4] false)),
 (179,(TypeDesc.map 3 3)),
 (183,(TypeDesc.func #[64] #[4] false)),
 (189,(TypeDesc.slice 59)),
 (191,(TypeDesc.struct #[{name:= "kind",type:=5,offset:=0,embedded:=false,tag:= "",pkgPath:= "loop.example/g01175/impl",byteOffset:=0},{name:= "a",type:=3,offset:=1,embedded:=false,tag:= "",pkgPath:= "loop.example/g01175/impl",byteOffset:=8},{name:= "b",type:=3,offset:=2,embedded:=false,tag:= "",pkgPath:= "loop.example/g01175/impl",byteOffset:=16},{name:= "rest",type:=59,offset:=3,embedded:=false,tag:= "",pkgPath:= "loop.example/g01175/impl",byteOffset:=24},{name:= "parts",type:=189,offset:=4,embedded:=false,tag:= "",pkgPath:= "loop.example/g01175/impl",byteOffset:=32}])),
 (193,(TypeDesc.func #[130] #[4] false)),
 (200,(TypeDesc.tuple #[3,3])),
 (202,(TypeDesc.pointer 205)),
 (203,(TypeDesc.map 3 5)),
 (205,(TypeDesc.struct #[{name:= "env",type:=203,offset:=0,embedded:=false,tag:= "",pkgPath:= "loop.example/g01175/impl",byteOffset:=0},{name:= "taken",type:=91,offset:=1,embedded:=false,tag:= "",pkgPath:= "loop.example/g01175/impl",byteOffset:=8},{name:= "bad",type:=4,offset:=2,embedded:=false,tag:= "",pkgPath:= "loop.example/g01175/impl",byteOffset:=12},{name:= "owns",type:=3,offset:=3,embedded:=false,tag:= "",pkgPath:= "loop.example/g01175/impl",byteOffset:=16}])),
 (214,(TypeDesc.pointer 216)),
 (216,(TypeDesc.struct #[{name:= "broken",type:=4,offset:=0,embedded:=false,tag:= "",pkgPath:= "loop.example/g01175/spec",byteOffset:=0},{name:= "once",type:=4,offset:=1,embedded:=false,tag:= "",pkgPath:= "loop.example/g01175/spec",byteOffset:=1}])),
 (218,(TypeDesc.func #[64] #[] false)),
 (231,(TypeDesc.func #[59] #[4] false)),
 (241,(TypeDesc.pointer 243)),
 (243,(TypeDesc.struct #[{name:= "front",type:=9,offset:=0,embedded:=false,tag:= "",pkgPath:= "loop.example/g01175/spec",byteOffset:=0},{name:= "threads",type:=22,offset:=1,embedded:=false,tag:= "",pkgPath:= "loop.example/g01175/spec",byteOffset:=16}]))]
def Ir:∀p∈Ik,Tryz.prog.underlying p.1=some p.2:=by
 unfold Ik;refine Ni.2 ⟨Tryz.underlying3,Ni.2 ⟨Tryz.underlying9,Ni.2 ⟨Tryz.underlying5,Ni.2 ⟨Tryz.underlying4,Ni.2 ⟨Tryz.underlying0,Ni.2 ⟨Tryz.underlying1,Ni.2 ⟨Tryz.underlying21,Ni.2 ⟨Tryz.underlying22,Ni.2 ⟨Tryz.underlying23,Ni.2 ⟨Tryz.underlying25,Ni.2 ⟨Tryz.underlying31,Ni.2 ⟨Tryz.underlying32,Ni.2 ⟨Tryz.underlying39,Ni.2 ⟨Tryz.underlying43,Ni.2 ⟨Tryz.underlying45,Ni.2 ⟨Tryz.underlying46,Ni.2 ⟨Tryz.underlying51,Ni.2 ⟨Tryz.underlying53,Ni.2 ⟨Tryz.underlying58,Ni.2 ⟨Tryz.underlying59,Ni.2 ⟨Tryz.underlying61,Ni.2 ⟨Tryz.underlying64,Ni.2 ⟨Tryz.underlying65,Ni.2 ⟨Tryz.underlying68,Ni.2 ⟨Tryz.underlying70,Ni.2 ⟨Tryz.underlying73,Ni.2 ⟨Tryz.underlying74,Ni.2 ⟨Tryz.underlying77,Ni.2 ⟨Tryz.underlying79,Ni.2 ⟨Tryz.underlying89,Ni.2 ⟨Tryz.underlying91,Ni.2 ⟨Tryz.underlying96,Ni.2 ⟨Tryz.underlying107,Ni.2 ⟨Tryz.underlying113,Ni.2 ⟨Tryz.underlying116,Ni.2 ⟨Tryz.underlying119,Ni.2 ⟨Tryz.underlying122,Ni.2 ⟨Tryz.underlying126,Ni.2 ⟨Tryz.underlying127,Ni.2 ⟨Tryz.underlying129,Ni.2 ⟨Tryz.underlying130,Ni.2 ⟨Tryz.underlying131,Ni.2 ⟨Tryz.underlying134,Ni.2 ⟨Tryz.underlying137,Ni.2 ⟨Tryz.underlying139,Ni.2 ⟨Tryz.underlying141,Ni.2 ⟨Tryz.underlying145,Ni.2 ⟨Tryz.underlying147,Ni.2 ⟨Tryz.underlying149,Ni.2 ⟨Tryz.underlying172,Ni.2 ⟨Tryz.underlying179,Ni.2 ⟨Tryz.underlying183,Ni.2 ⟨Tryz.underlying189,Ni.2 ⟨Tryz.underlying191,Ni.2 ⟨Tryz.underlying193,Ni.2 ⟨Tryz.underlying200,Ni.2 ⟨Tryz.underlying202,Ni.2 ⟨Tryz.underlying203,Ni.2 ⟨Tryz.underlying205,Ni.2 ⟨Tryz.underlying214,Ni.2 ⟨Tryz.underlying216,Ni.2 ⟨Tryz.underlying218,Ni.2 ⟨Tryz.underlying231,Ni.2 ⟨Tryz.underlying241,Ni.2 ⟨Tryz.underlying243,List.forall_mem_nil _⟩⟩⟩⟩⟩⟩⟩⟩⟩⟩⟩⟩⟩⟩⟩⟩⟩⟩⟩⟩⟩⟩⟩⟩⟩⟩⟩⟩⟩⟩⟩⟩⟩⟩⟩⟩⟩⟩⟩⟩⟩⟩⟩⟩⟩⟩⟩⟩⟩⟩⟩⟩⟩⟩⟩⟩⟩⟩⟩⟩⟩⟩⟩⟩⟩
def FO (t:Nat)(d:TypeDesc)(h:mH Ik t=some d):Tryz.prog.underlying t=some d:=Ir (t,d) (qf h)
@[reducible] noncomputable def IJ:List (Nat×(Value×Nat×Nat)):=[(3,(.int .i64 0),1,8),
 (9,(.string ⟨#[]⟩),1,16),
 (5,(.int .u8 0),1,1),
 (4,(.bool false),1,1),
 (1,.nilFunc,1,8),
 (21,(.int .i32 0),1,4),
 (22,(.slice none 0 0),1,24),
 (25,.nilFunc,1,8),
 (31,(.slice none 0 0),1,24),
 (39,.nilFunc,1,8),
 (45,(.pointer none),1,8),
 (51,(.pointer none),1,8),
 (53,(.agg #[(.slice none 0 0),(.bool false)]),2,32),
 (58,(.agg #[(.int .i64 0)]),1,8),
 (59,(.pointer none),1,8),
 (61,(.agg #[(.int .i64 0),(.string ⟨#[]⟩),(.pointer none)]),3,32),
 (64,(.pointer none),1,8),
 (68,(.slice none 0 0),1,24),
 (70,(.agg #[(.int .u8 0),(.int .u8 0),(.int .u8 0),(.slice none 0 0)]),4,32),
 (73,(.slice none 0 0),1,24),
 (77,(.pointer none),1,8),
 (79,(.agg #[(.slice none 0 0),(.slice none 0 0),(.bool false)]),3,56),
 (91,(.int .u32 0),1,4),
 (96,(.agg #[(.string ⟨#[]⟩),(.string ⟨#[]⟩)]),2,32),
 (107,(.slice none 0 0),1,24),
 (113,(.agg #[(.int .i64 0),(.int .i64 0),(.int .i64 0),(.int .i64 0),(.int .i64 0),(.int .i64 0),(.int .i64 0),(.int .i64 0),(.int .i64 0),(.int .i64 0),(.int .i64 0),(.int .i64 0),(.int .i64 0),(.int .i64 0),(.int .i64 0),(.int .i64 0),(.int .i64 0),(.int .i64 0),(.int .i64 0),(.int .i64 0),(.int .i64 0),(.int .i64 0),(.int .i64 0),(.int .i64 0),(.int .i64 0),(.int .i64 0)]),26,208),
 (119,(.slice none 0 0),1,24),
 (122,(.agg #[(.int .u8 0),(.int .u8 0),(.int .u8 0),(.string ⟨#[]⟩),(.bool false)]),5,32),
 (126,(.slice none 0 0),1,24),
 (127,(.slice none 0 0),1,24),
 (129,(.agg #[(.slice none 0 0),(.slice none 0 0)]),2,48),
 (130,(.pointer none),1,8),
 (131,(.slice none 0 0),1,24),
 (134,(.agg #[(.int .u8 0),(.int .i64 0),(.int .i64 0),(.pointer none),(.bool false)]),5,40),
 (137,(.pointer none),1,8),
 (139,(.agg #[(.string ⟨#[]⟩),(.int .i64 0),(.bool false)]),3,32),
 (141,(.pointer none),1,8),
 (145,(.slice none 0 0),1,24),
 (147,.nilFunc,1,8),
 (149,(.agg #[(.int .i64 0),.nilFunc]),2,16),
 (172,.nilFunc,1,8),
 (179,(.map none),1,8),
 (183,.nilFunc,1,8),
 (189,(.slice none 0 0),1,24),
 (191,(.agg #[(.int .u8 0),(.int .i64 0),(.int .i64 0),(.pointer none),(.slice none 0 0)]),5,56),
 (193,.nilFunc,1,8),
 (202,(.pointer none),1,8),
 (203,(.map none),1,8),
 (205,(.agg #[(.map none),(.int .u32 0),(.bool false),(.int .i64 0)]),4,24),
 (214,(.pointer none),1,8),
 (216,(.agg #[(.bool false),(.bool false)]),2,2),
 (218,.nilFunc,1,8),
 (231,.nilFunc,1,8),
 (241,(.pointer none),1,8),
 (243,(.agg #[(.string ⟨#[]⟩),(.slice none 0 0)]),2,40)]
def Fo:IJ.map (λp=>(Tryz.prog.info? p.1).map λi=>(i.zero,i.size,i.bytes))=IJ.map (λp=>some (some p.2.1,p.2.2.1,p.2.2.2)):=by kernel_rfl
def IP (t:Nat)(z:Value)(s b:Nat)(h:mH IJ t=some (z,s,b)):∃i,Tryz.prog.info? t=some i/\i.zero=some z/\i.size=s/\i.bytes=b:=by
 have h1:=qf h;have G:=List.map_inj_left.1 Fo _ h1;cases hi:Tryz.prog.info? t with
 | none=>rw [hi]at G;cases G
 | some i=>
  rw [hi]at G;simp only [OP,Ow,Prod.mk.injEq]at G;exact⟨i,rfl,G.1,G.2.1,G.2.2⟩
@[reducible] def gD:List Nat:=[3,4,5,6,7,8,9,10,11,12,13,14,15,16,17,18,19,20,21,22,23,24,25,26,27,28,29,30,31,32,33,34,35,36,37,38,39,40,41,42,43,44,45,46,47,48,49,50,51,52,53,54,55,56,57,58,59,60,61,62,63,64,65,66,67,68,69,70,71,72,73,74,75,76,77,78,79,80,81,82,83,84,85,86,87,88,89,90,91,92,93,94,95,96,97,98,99,100,101,102,103,104,105,106,107,108,109,110,111,112,113,114,115,116,117,118,119,120,121,122,123,124,125,126,127,128,129,130,131,132,133,134,135,136,137,138,139,140,141,142,143,144,145,146,147,148,149,150,151,152,153,154,155,156,157,158,159,160,161,162,163,164,165,166,167,168,169,170,171,172,173,174,175,176,177,178,179,180,181,182,183,184,185,186,187,188,189,190,191,192,193,194,195,196,197,198,199,200,201,202,203,204,205,206,207,208,209,210,211,212,213,214,215,216,217,218,219,220,221,222,223,224,225,226,227,228,229,230,231,232,233,234,235,236,237,238,239,240,241,242,243,244,245,246,247,248,249,250,251,252,253,254,255,257,258,259,260,261]
def Fq:gD.all (λf=>match Tryz.prog.funcs[f]? with | some g=> !g.body.isNone&& !(g.name== "runtime.NumGoroutine") | none=>false)=true:=by kernel_rfl
def IQ (f:Nat)(h:hasR gD f=true):∃g,Tryz.prog.funcs[f]?=some g/\g.body.isNone=false/\(g.name== "runtime.NumGoroutine")=false:=by
 have h1:=OV.1 Fq f (GW h);cases G:Tryz.prog.funcs[f]? with
 | none=>rw [G]at h1;cases h1
 | some g=>rw [G]at h1;simp only [M8,Pa]at h1;exact⟨g,rfl,h1.1,h1.2⟩
def Ey:Tryz.prog.follows .mixedOrders=true:=by kernel_rfl
@[reducible] noncomputable def az:dv where
 P:=Tryz.prog
 und:=mH Ik
 und_ok:=FO
 inf:=mH IJ
 inf_ok:=IP
 fn:=hasR gD
 fn_ok:=IQ
 mixed:=Ey
def L9:az.P=Tryz.prog:=rfl
@[reducible] def ab (f:Func):Code:=match f.body with
 | some c=>c
 | none=> .skip
attribute [go_sem] L9 ab
abbrev Ms (w:World)(b f n:Nat)(cs:List Value)(K:Qx):Prop:=(List.length cs=n/\List.all cs oneV=true/\∀j,j< n->(∃u,World.cell? w ⟨b,f+j,none⟩=some u)/\World.frozen? w ⟨b,f+j,none⟩=false)/\∀G:World,G=World.setCells w b f cs->K G
abbrev jF (w:World)(o:Obj)(K:Nat->Qx):Prop:=∀(b:Nat) (G:World),b=Array.size (World.heap w)->G=World.alloc w o->K b G
abbrev cJ (v:Value)(K:Nat->Nat->Prop):Prop:=∃(b o:Nat),v=Value.pointer (some ⟨b,o,none⟩)/\K b o
abbrev vQ (v:Value)(i:Int)(K:Nat->Nat->Prop):Prop:=∃(b o n c:Nat),v=Value.slice (some ⟨b,o,none⟩) n c/\0<=i/\i< n/\K b o
abbrev uC (v:Value)(K:Nat->Prop):Prop:=∃(a:Option Addr) (n c:Nat),v=Value.slice a n c/\K n
abbrev pb (w:World)(b j:Nat)(v:Value)(K:Qx):Prop:=((∃u:Value,World.cell? w ⟨b,j,none⟩=some u)/\World.frozen? w ⟨b,j,none⟩=false)/\∀G:World,G=World.setCell w ⟨b,j,none⟩ v->K G
abbrev dP (c:Bool)(A B:Prop):Prop:=(c=true->A)/\(c=false->B)
abbrev Iv (c:Bool)(A B:Prop):Prop:=(c=false->A)/\(c=true->B)
abbrev qg (w:World)(K:(Qx)->Qx):Prop:=∃S:Qx,∀w1:World,w1=World.drew w->S w1/\K S w1
abbrev um (e z y:Nat)(w:World)(v x:Value)(K:Value->Qx):Prop:=∃(base n m:Nat) (xs news:List Value),World.ownsRow w base e z v n xs/\base<=Array.size (World.heap w)/\db w x m z news/\(n+m<=maxLen/\(n+m)* y<=140737488355328)/\∀(v':Value) (w':World),World.ownsRow w' base e z v' (n+m) (xs++news)->World.grownBy w w' (Value.ownBlock v)->(∀b:Nat,Value.ownBlock v'=some b->Value.ownBlock v=some b\/Array.size (World.heap w)<=b)->K v' w'
abbrev La (w:World)(b o:Nat)(K:Int->Prop):Prop:=∃v:Int,World.cell? w ⟨b,o,none⟩=some (.int .i64 v)/\K v
abbrev yO (S:Qx)(b o:Nat)(K:Int->Prop):Prop:=∃v:Int,(∀w',S w'->World.cell? w' ⟨b,o,none⟩=some (.int .i64 v))/\K v
abbrev CH (w:World)(b o:Nat)(K:UInt8->Prop):Prop:=∃v:UInt8,World.cell? w ⟨b,o,none⟩=some (.int .u8 (UInt8.toNat v))/\K v
abbrev LP (S:Qx)(b o:Nat)(K:UInt8->Prop):Prop:=∃v:UInt8,(∀w',S w'->World.cell? w' ⟨b,o,none⟩=some (.int .u8 (UInt8.toNat v)))/\K v
abbrev MR (w:World)(b o:Nat)(K:aJ->Prop):Prop:=∃v:aJ,World.cell? w ⟨b,o,none⟩=some (.string (ay v))/\K v
abbrev ML (S:Qx)(b o:Nat)(K:aJ->Prop):Prop:=∃v:aJ,(∀w',S w'->World.cell? w' ⟨b,o,none⟩=some (.string (ay v)))/\K v
abbrev MH (w:World)(b o:Nat)(K:Bool->Prop):Prop:=∃v:Bool,World.cell? w ⟨b,o,none⟩=some (.bool v)/\K v
abbrev fW (w:World)(b o:Nat)(K:Value->Prop):Prop:=∃v:Value,World.cell? w ⟨b,o,none⟩=some (v)/\K v
abbrev gG (S:Qx)(b o:Nat)(K:Value->Prop):Prop:=∃v:Value,(∀w',S w'->World.cell? w' ⟨b,o,none⟩=some (v))/\K v
abbrev fC (f:Nat)(a:Array Value)(w:World)(K:Qx):Prop:=Qy f a w (ax [] K)
abbrev GI (f:Nat)(a:Array Value)(w:World)(K:Value->Qx):Prop:=Qy f a w (ax [.v] K)
abbrev Hv (f:Nat)(a:Array Value)(w:World)(K:Bool->Qx):Prop:=Qy f a w (ax [.b] K)
abbrev MT (f:Nat)(a:Array Value)(w:World)(K:aJ->Qx):Prop:=Qy f a w (ax [.s] K)
abbrev Hu (f:Nat)(a:Array Value)(w:World)(K:Int->Qx):Prop:=Qy f a w (ax [.i] K)
abbrev KI (f:Nat)(a:Array Value)(w:World)(K:Value->Bool->Qx):Prop:=Qy f a w (ax [.v,.b] K)
abbrev Mp (f:Nat)(a:Array Value)(w:World)(K:aJ->Bool->Qx):Prop:=Qy f a w (ax [.s,.b] K)
abbrev Mn (f:Nat)(a:Array Value)(w:World)(K:aJ->aJ->Qx):Prop:=Qy f a w (ax [.s,.s] K)
abbrev Hm (a0:Int)(w:World)(K:(Int->Qx)->(Int->World->Nat)->Int->Qx):Prop:=∃(I:Int->Qx) (m:Int->World->Nat),I a0 w/\∀(G:Int) (H:World),I G H->K I m G H
abbrev Bg (a0:Value)(Z:Int)(w:World)(K:(Value->Int->Qx)->(Value->Int->World->Nat)->Value->Int->Qx):Prop:=∃(I:Value->Int->Qx) (m:Value->Int->World->Nat),I a0 Z w/\∀(G:Value) (H:Int) (J:World),I G H J->K I m G H J
@[simp] theorem MF (A B:Prop):dP true A B↔A:=⟨λh=>h.1 rfl,λh=>⟨λ _=>h,(λe=>by cases e)⟩⟩
@[simp] theorem My (A B:Prop):dP false A B↔B:=⟨λh=>h.2 rfl,λh=>⟨(λe=>by cases e),λ _=>h⟩⟩
def tN {n i:Nat}(h:i< n):((n:Int) - ((i:Int)+1)).toNat< ((n:Int) - i).toNat:=by omega
def oL {a b:Nat}{d:Decidable ((a:Int)< b)}(h:@decide _ d=true):a< b:=Int.ofNat_lt.1 (NB h)
def oE {a b:Nat}{d:Decidable ((a:Int)< b)}(h:@decide _ d=false)(k:a<=b):a=b:=by
 have :=Ny h;omega
def gE {α:Type}{l:List α}{i:Nat}(h:i< l.length):l[(i:Int).toNat]?=some l[i]:=by rw [Nf];exact M6 h
@[simp] theorem MC (A B:Prop):Iv true A B↔B:=⟨λh=>h.2 rfl,λh=>⟨(λe=>by cases e),λ _=>h⟩⟩
@[simp] theorem Mt (A B:Prop):Iv false A B↔A:=⟨λh=>h.1 rfl,λh=>⟨λ _=>h,(λe=>by cases e)⟩⟩
@[reducible] def aZ (l c:List (Nat×List (Nat×Kd))) (t:List (Nat×Bool×Pl)):Ee:=⟨λn=>mH l n,λn=>mH c n,λn=>mH t n⟩
def Lf {f:Nat}{fn:Func}{w:World}{V:Prop}(A:Ee)(L:List RI)(args:List SV){R:Cur (nC L)}(H:az.P.funcs[f]?=some fn)(e:(fn.body,fn.results,okCode az A fn.ntmps (ab fn)&&decide (args.length<=fn.ntmps),vc az A (ab fn) (ai 0 args) w (fin az L R))=(some (ab fn),(L.map RI.rv).toArray,true,V))(h:V):Calls az.P f (SV.aM args).toArray w (ax (nC L) R):=by
 injection e with hb e
 injection e with hr e
 injection e with G e
 exact qw (T:=az) A L (c:=ab fn) (args:=args) H hb rfl hr G (Eq.mpr e h)
def a7 {f:Nat}{fn:Func}{w:World}{A:Ee}{L:List RI}{args:List SV}{R:Cur (nC L)}(H:az.P.funcs[f]?=some fn)(e:(fn.body,fn.results,okCode az A fn.ntmps (ab fn)&&decide (args.length<=fn.ntmps))=(some (ab fn),(L.map RI.rv).toArray,true))(h:vc az A (ab fn) (ai 0 args) w (fin az L R)):Calls az.P f (SV.aM args).toArray w (ax (nC L) R):=by
 injection e with hb e
 injection e with hr G
 exact qw (T:=az) A L (c:=ab fn) (args:=args) H hb rfl hr G h
attribute [go_sem] Tryz.f63
def uk (s1:aJ)(w:World)(R:Bool->Qx)(h:vc az (aZ [] [] []) (ab Tryz.f63) (ai 0 [.s s1]) w (fin az [.tmp 2 .b] R)):
  Qy 63 #[(.string (ay s1))] w (ax [.b] R):=
 a7 Tryz.func63 (by kernel_rfl) h
attribute [go_sem] Tryz.f42
attribute [go_sem] Tryz.f118
def r8 (f1:aJ)(t2:Value)(G:UInt8)(w:World)(R:aJ->Bool->Qx)(h:vc az (aZ [(5,[(8,.s),(9,.i)])] [(4,[(8,.s)])] []) (ab Tryz.f118) (ai 0 [.s f1,.v t2,.c G]) w (fin az [.tmp 6 .s,.tmp 7 .b] R)):
  Qy 118 #[(.string (ay f1)),t2,(.int .u8 G.toNat)] w (ax [.s,.b] R):=
 a7 Tryz.func118 (by kernel_rfl) h
def pS (p1:aJ)(n2:UInt8)(o3:UInt8)(w:World)(R:Value->Bool->Qx)(h:Mn 107 #[(.string (ay p1))] w λs4 s5 w6=>GI 108 #[(.string (ay p1))] w6 λv7 w8=>uC v7 λl10=>Bg (.slice none 0 0) 0 w8 λI12 m13 ο Z ι=>dP (decide (Z< (l10:Int))) (vQ v7 Z λb17 o18=>MR ι b17 (o18+Z.toNat* 1) λs21=>GI 109 #[(.string (ay s21))] ι λv22 w23=>uC v22 λl25=>Bg ο 0 w23 λκ β H G J=>dP (decide (G< (l25:Int))) (vQ v22 G λζ η=>∃c36:UInt8,∃c37:UInt8,∃c38:UInt8,∃s39:aJ,∃q40:Bool,(World.cell? J ⟨ζ,(η+G.toNat* 5),none⟩=some (.int .u8 c36.toNat)/\World.cell? J ⟨ζ,((η+G.toNat* 5)+1),none⟩=some (.int .u8 c37.toNat)/\World.cell? J ⟨ζ,(((η+G.toNat* 5)+1)+1),none⟩=some (.int .u8 c38.toNat)/\World.cell? J ⟨ζ,((((η+G.toNat* 5)+1)+1)+1),none⟩=some (.string (ay s39))/\World.cell? J ⟨ζ,(((((η+G.toNat* 5)+1)+1)+1)+1),none⟩=some (.bool q40)/\True)/\jF J (.cells #[(.int .u8 0),(.int .u8 0),(.int .u8 0),(.string ⟨#[]⟩),(.bool false)] 122) λγ w42=>Ms w42 γ 0 5 [(.int .u8 c36.toNat),(.int .u8 c37.toNat),(.int .u8 c38.toNat),(.string (ay s39)),(.bool q40)] λθ=>∃ς:Qx,(CH θ γ 0 λc45=>Iv (!decide (c45=63)) (CH θ γ 1 λc46=>Hv 92 #[(.string (ay s4)),(.int .u8 c46.toNat)] θ λq47 δ=>Iv q47 (dP (!decide (o3=0)) (CH δ γ 1 λc49=>dP (!decide (c49=o3)) (cW (G+1)/\κ H (G+1) δ/\β H (G+1) δ< β H G J) (ς δ)) (ς δ)) (cW (G+1)/\κ H (G+1) δ/\β H (G+1) δ< β H G J)) (cW (G+1)/\κ H (G+1) θ/\β H (G+1) θ< β H G J))/\∀(υ:World),ς υ->dP (decide (122< n2)) (R (.slice none 0 0) false υ) (∃J51:Value->Qx,(qg υ λε w53=>ML ε γ 3 λs54=>LP ε γ 2 λc55=>GI 111 #[v7,(.int .i64 Z),(.int .i64 Z)] w53 λv56 w57=>ε w57/\MT 112 #[(.string (ay s54)),(.int .u8 c55.toNat),(.int .u8 (UInt8.toNat 90))] w57 λs58 w59=>ε w59/\jF w59 (.cells #[(.string (ay s58))] 9) λb60 w61=>ε w61/\um 9 1 16 w61 v56 (.slice (some ⟨b60,0,none⟩) 1 1) λv67 w68=>ε w68/\J51 v67 w68)/\∀(φ:Value) (μ:World),J51 φ μ->∃χ:Value->Qx,(MH μ γ 4 λq72=>dP q72 (jF μ (.cells #[(.string (ay s21))] 9) λb73 w74=>um 9 1 16 w74 φ (.slice (some ⟨b73,0,none⟩) 1 1) λv80 w81=>χ v80 w81) (χ φ μ))/\∀(r82:Value) (w83:World),χ r82 w83->Mp 118 #[(.string (ay s4)),r82,(.int .u8 n2.toNat)] w83 λs84 q85 ψ=>dP (!q85) (R (.slice none 0 0) false ψ) (CH ψ γ 1 λc87=>jF ψ (.cells #[(.int .u8 c87.toNat),(.int .u8 (UInt8.toNat 63)),(.int .u8 n2.toNat)] 5) λb88 w89=>∃(b90 o91 n92 c93:Nat) (ω:aJ),(Value.slice (some ⟨b88,0,none⟩) 3 3)= .slice (some ⟨b90,o91,none⟩) n92 c93/\ω.length=n92/\(∀(j:Nat) (x:UInt8),ω[j]?=some x->World.cell? w89 ⟨b90,o91+j,none⟩=some (.int .u8 x.toNat))/\jF w89 (.cells #[(.string (ay ω)),(.string (ay s84))] 96) λb95 w96=>um 96 2 32 w96 H (.slice (some ⟨b95,0,none⟩) 1 1) λν ξ=>cW (G+1)/\κ ν (G+1) ξ/\β ν (G+1) ξ< β H G J))) (cW (Z+1)/\I12 H (Z+1) J/\m13 H (Z+1) J< m13 ο Z ι)) (R ο true ι)):
  Qy 64 #[(.string (ay p1)),(.int .u8 n2.toNat),(.int .u8 o3.toNat)] w (ax [.v,.b] R):=
 Lf (aZ [(5,[(11,.v),(28,.i)]),(8,[(11,.v),(36,.i)])] [(11,[]),(14,[(16,.v)]),(16,[(16,.v)])] [(13,false,.lt 0 (.lt 1 (.lt 2 (.lt 4 (.lt 5 (.lt 6 (.lt 7 (.one .h 3 (.one .h 8 (.one .h 9 (.one .h 10 (.lt 11 .done))))))))))))]) [.tmp 6 .v,.tmp 7 .b] [.s p1,.c n2,.c o3] Tryz.func64 (by kernel_rfl) h
attribute [go_sem] Tryz.f91
attribute [go_sem] Tryz.f43
attribute [go_sem] Tryz.f13
attribute [go_sem] Tryz.f21
attribute [go_sem] Tryz.f202
def tn (c1:UInt8)(w:World)(R:Bool->Qx)(h:vc az (aZ [] [] []) (ab Tryz.f202) (ai 0 [.c c1]) w (fin az [.tmp 2 .b] R)):
  Qy 202 #[(.int .u8 c1.toNat)] w (ax [.b] R):=
 a7 Tryz.func202 (by kernel_rfl) h
attribute [go_sem] Tryz.f159
def mE (G:aJ)(a2:Int)(w:World)(R:Int->Qx)(h:vc az (aZ [] [] []) (ab Tryz.f159) (ai 0 [.s G,.i a2]) w (fin az [.tmp 4 .i] R)):
  Qy 159 #[(.string (ay G)),(.int .i64 a2)] w (ax [.i] R):=
 a7 Tryz.func159 (by kernel_rfl) h
attribute [go_sem] Tryz.f144
def rM (G:aJ)(w:World)(R:UInt8->Qx)(h:vc az (aZ [] [] []) (ab Tryz.f144) (ai 0 [.s G]) w (fin az [.tmp 2 .c] R)):
  Qy 144 #[(.string (ay G))] w (ax [.c] R):=
 a7 Tryz.func144 (by kernel_rfl) h
attribute [go_sem] Tryz.f180
def tR (G:aJ)(w:World)(R:Int->Qx)(h:vc az (aZ [] [] []) (ab Tryz.f180) (ai 0 [.s G]) w (fin az [.tmp 2 .i] R)):
  Qy 180 #[(.string (ay G))] w (ax [.i] R):=
 a7 Tryz.func180 (by kernel_rfl) h
attribute [go_sem] Tryz.f141
def qA (G:aJ)(w:World)(R:Value->Qx)(h:vc az (aZ [] [] [(7,false,.lt 0 (.lt 1 (.lt 2 (.lt 3 (.lt 4 (.lt 5 (.lt 6 (.lt 7 (.lt 8 (.lt 9 (.one .h 10 (.lt 11 .done))))))))))))]) (ab Tryz.f141) (ai 0 [.s G]) w (fin az [.tmp 2 .v] R)):
  Qy 141 #[(.string (ay G))] w (ax [.v] R):=
 a7 Tryz.func141 (by kernel_rfl) h
attribute [go_sem] Tryz.f131
def rG (G:aJ)(w:World)(R:Int->Qx)(h:vc az (aZ [(3,[(3,.i),(9,.i)])] [] []) (ab Tryz.f131) (ai 0 [.s G]) w (fin az [.tmp 2 .i] R)):
  Qy 131 #[(.string (ay G))] w (ax [.i] R):=
 a7 Tryz.func131 (by kernel_rfl) h
attribute [go_sem] Tryz.f158
def qU (G:aJ)(w:World)(R:Bool->Qx)(h:vc az (aZ [(2,[(3,.i)])] [] []) (ab Tryz.f158) (ai 0 [.s G]) w (fin az [.tmp 2 .b] R)):
  Qy 158 #[(.string (ay G))] w (ax [.b] R):=
 a7 Tryz.func158 (by kernel_rfl) h
attribute [go_sem] Tryz.f88
def tr (G:aJ)(w:World)(R:Bool->Qx)(h:vc az (aZ [] [] []) (ab Tryz.f88) (ai 0 [.s G]) w (fin az [.tmp 2 .b] R)):
  Qy 88 #[(.string (ay G))] w (ax [.b] R):=
 a7 Tryz.func88 (by kernel_rfl) h
attribute [go_sem] Tryz.f92
def xe (s1:aJ)(c2:UInt8)(w:World)(R:Bool->Qx)(h:vc az (aZ [(2,[(5,.i)])] [] []) (ab Tryz.f92) (ai 0 [.s s1,.c c2]) w (fin az [.tmp 4 .b] R)):
  Qy 92 #[(.string (ay s1)),(.int .u8 c2.toNat)] w (ax [.b] R):=
 a7 Tryz.func92 (by kernel_rfl) h
attribute [go_sem] Tryz.f145
def uh (s1:aJ)(c2:UInt8)(w:World)(R:aJ->Qx)(h:vc az (aZ [(2,[(5,.i)])] [] [(6,false,.lt 0 (.lt 1 (.lt 2 (.lt 3 (.lt 7 (.lt 8 (.lt 9 (.one .h 4 (.one .h 5 (.lt 6 (.lt 10 (.lt 11 .done))))))))))))]) (ab Tryz.f145) (ai 0 [.s s1,.c c2]) w (fin az [.tmp 4 .s] R)):
  Qy 145 #[(.string (ay s1)),(.int .u8 c2.toNat)] w (ax [.s] R):=
 a7 Tryz.func145 (by kernel_rfl) h
attribute [go_sem] Tryz.f140
def tq (s1:aJ)(c2:UInt8)(w:World)(R:aJ->Qx)(h:vc az (aZ [(3,[(5,.s),(6,.i)])] [] []) (ab Tryz.f140) (ai 0 [.s s1,.c c2]) w (fin az [.tmp 4 .s] R)):
  Qy 140 #[(.string (ay s1)),(.int .u8 c2.toNat)] w (ax [.s] R):=
 a7 Tryz.func140 (by kernel_rfl) h
attribute [go_sem] Tryz.f142
def rK (s1:aJ)(t2:aJ)(w:World)(R:aJ->Qx)(h:vc az (aZ [(2,[(0,.s),(5,.i)])] [] []) (ab Tryz.f142) (ai 0 [.s s1,.s t2]) w (fin az [.tmp 4 .s] R)):
  Qy 142 #[(.string (ay s1)),(.string (ay t2))] w (ax [.s] R):=
 a7 Tryz.func142 (by kernel_rfl) h
attribute [go_sem] Tryz.f143
def qM (G:aJ)(w:World)(R:UInt8->Bool->Qx)(h:vc az (aZ [] [] []) (ab Tryz.f143) (ai 0 [.s G]) w (fin az [.tmp 2 .c,.tmp 3 .b] R)):
  Qy 143 #[(.string (ay G))] w (ax [.c,.b] R):=
 a7 Tryz.func143 (by kernel_rfl) h
attribute [go_sem] Tryz.f79
def tF (G:aJ)(w:World)(R:aJ->Qx)(h:vc az (aZ [(3,[(3,.s),(11,.i)])] [(10,[(3,.s)])] [(12,false,.lt 0 (.lt 1 (.lt 2 (.lt 4 (.lt 5 (.one .h 3 (.one .h 6 (.lt 7 .done)))))))),(16,false,.lt 0 (.lt 1 (.lt 2 (.lt 4 (.lt 5 (.one .h 3 (.one .h 6 (.lt 7 .done))))))))]) (ab Tryz.f79) (ai 0 [.s G]) w (fin az [.tmp 2 .s] R)):
  Qy 79 #[(.string (ay G))] w (ax [.s] R):=
 a7 Tryz.func79 (by kernel_rfl) h
attribute [go_sem] Tryz.f78
def qX (t1:aJ)(w:World)(R:UInt8->Qx)(h:vc az (aZ [(2,[(3,.c)]),(7,[(4,.c)])] [] []) (ab Tryz.f78) (ai 0 [.s t1]) w (fin az [.tmp 2 .c] R)):
  Qy 78 #[(.string (ay t1))] w (ax [.c] R):=
 a7 Tryz.func78 (by kernel_rfl) h
attribute [go_sem] Tryz.f181
def sj (c1:UInt8)(G:UInt8)(H:UInt8)(w:World)(R:UInt8->Qx)(h:vc az (aZ [] [] []) (ab Tryz.f181) (ai 0 [.c c1,.c G,.c H]) w (fin az [.tmp 6 .c] R)):
  Qy 181 #[(.int .u8 c1.toNat),(.int .u8 G.toNat),(.int .u8 H.toNat)] w (ax [.c] R):=
 a7 Tryz.func181 (by kernel_rfl) h
attribute [go_sem] Tryz.f112
def qd (G:aJ)(H:UInt8)(J:UInt8)(w:World)(R:aJ->Qx)(h:vc az (aZ [] [(10,[(11,.c)]),(12,[(8,.s),(9,.c)]),(14,[(8,.s)]),(18,[]),(30,[])] [(9,false,.lt 0 (.lt 2 (.lt 3 (.br .h 1 (.one .h 4 (.one .h 5 (.one .h 6 (.one .h 7 (.lt 8 .done))))) (.one .h 4 (.br .h 1 (.one .h 5 (.one .h 6 (.one .h 7 (.lt 8 .done)))) (.one .h 5 (.one .h 1 (.one .h 6 (.one .h 7 (.lt 8 .done))))))))))),(29,false,.lt 0 (.lt 1 (.lt 2 (.lt 3 (.lt 4 (.lt 5 (.lt 7 (.lt 8 (.lt 9 (.lt 10 (.lt 11 (.one .h 6 (.one .h 12 (.one .h 13 (.one .h 14 (.lt 15 .done)))))))))))))))),(30,false,.lt 0 (.lt 2 (.lt 3 (.lt 4 (.lt 5 (.lt 6 (.lt 7 (.br .h 1 (.one .h 8 (.lt 9 (.lt 10 .done))) (.one .h 8 (.one .h 1 (.lt 9 (.lt 10 .done))))))))))))]) (ab Tryz.f112) (ai 0 [.s G,.c H,.c J]) w (fin az [.tmp 6 .s] R)):
  Qy 112 #[(.string (ay G)),(.int .u8 H.toNat),(.int .u8 J.toNat)] w (ax [.s] R):=
 a7 Tryz.func112 (by kernel_rfl) h
attribute [go_sem] Tryz.f246
def qL (G:aJ)(w:World)(R:aJ->Qx)(h:vc az (aZ [] [] [(3,false,.lt 0 (.lt 1 (.lt 2 (.lt 3 (.lt 4 (.lt 5 .done)))))),(7,false,.lt 0 (.lt 1 (.lt 2 (.lt 3 (.lt 4 (.lt 5 .done))))))]) (ab Tryz.f246) (ai 0 [.s G]) w (fin az [.tmp 2 .s] R)):
  Qy 246 #[(.string (ay G))] w (ax [.s] R):=
 a7 Tryz.func246 (by kernel_rfl) h
attribute [go_sem] Tryz.f182
def rI (G:aJ)(H:Value)(w:World)(R:aJ->Qx)(h:vc az (aZ [] [] [(5,false,.lt 0 (.lt 1 (.lt 2 (.lt 3 (.lt 4 (.lt 5 (.lt 6 (.lt 7 (.lt 8 (.lt 9 (.lt 10 .done))))))))))),(7,false,.lt 0 (.lt 1 (.lt 2 (.lt 3 (.lt 4 (.lt 5 (.lt 6 (.lt 7 (.lt 8 (.lt 9 (.lt 10 .done))))))))))),(8,false,.lt 0 (.lt 1 (.lt 4 (.lt 5 (.lt 6 (.one .h 2 (.lt 3 (.lt 7 (.lt 8 .done)))))))))]) (ab Tryz.f182) (ai 0 [.s G,.v H]) w (fin az [.tmp 4 .s] R)):
  Qy 182 #[(.string (ay G)),H] w (ax [.s] R):=
 a7 Tryz.func182 (by kernel_rfl) h
attribute [go_sem] Tryz.f160
def nH (G:aJ)(w:World)(R:Bool->Qx)(h:vc az (aZ [(2,[(8,.i)])] [] []) (ab Tryz.f160) (ai 0 [.s G]) w (fin az [.tmp 2 .b] R)):
  Qy 160 #[(.string (ay G))] w (ax [.b] R):=
 a7 Tryz.func160 (by kernel_rfl) h
attribute [go_sem] Tryz.f161
def pL (G:aJ)(w:World)(R:Bool->Qx)(h:vc az (aZ [(2,[(8,.i)])] [] []) (ab Tryz.f161) (ai 0 [.s G]) w (fin az [.tmp 2 .b] R)):
  Qy 161 #[(.string (ay G))] w (ax [.b] R):=
 a7 Tryz.func161 (by kernel_rfl) h
attribute [go_sem] Tryz.f89
def p9 (G:aJ)(w:World)(R:Bool->Qx)(h:vc az (aZ [] [] []) (ab Tryz.f89) (ai 0 [.s G]) w (fin az [.tmp 2 .b] R)):
  Qy 89 #[(.string (ay G))] w (ax [.b] R):=
 a7 Tryz.func89 (by kernel_rfl) h
attribute [go_sem] Tryz.f163
def yA (G:aJ)(w:World)(R:aJ->Bool->Qx)(h:vc az (aZ [] [] []) (ab Tryz.f163) (ai 0 [.s G]) w (fin az [.tmp 2 .s,.tmp 3 .b] R)):
  Qy 163 #[(.string (ay G))] w (ax [.s,.b] R):=
 a7 Tryz.func163 (by kernel_rfl) h
inductive T (N:Type) where
 | nil
 | snd (a b:N) (p:T N)
 | rcv (a x:N) (p:T N)
 | tau (p:T N)
 | sum (p q:T N)
 | par (p q:T N)
 | res (x:N) (p:T N)
 | mat (a b:N) (p:T N)
 | rep (p:T N)
def aF {A V:Type}[DecidableEq A](ρ:A->V)(x:A)(v:V):A->V:=λy=>if y=x then v else ρ y
section
variable {A B C:Type} [DecidableEq A] [DecidableEq B] [DecidableEq C]
def bS (ρ:A->Nat)(x:A)(v:Nat):aF ρ x v x=v:=by simp [aF]
def bz (ρ:A->Nat){x y:A}(v:Nat)(h:y≠x):aF ρ x v y=ρ y:=by simp [aF,h]
namespace T
def Fr (x:A):T A->Prop
 | nil=>False
 | snd a b p=>x=a\/x=b\/p.Fr x
 | rcv a y p=>x=a\/(x≠y/\p.Fr x)
 | tau p=>p.Fr x
 | sum p q=>p.Fr x\/q.Fr x
 | par p q=>p.Fr x\/q.Fr x
 | res y p=>x≠y/\p.Fr x
 | mat a b p=>x=a\/x=b\/p.Fr x
 | rep p=>p.Fr x
def dead:T A->Bool
 | nil=>true | snd .. =>false | rcv .. =>false | tau _=>false
 | sum p q=>p.dead&&q.dead
 | par p q=>p.dead&&q.dead
 | res _ p=>p.dead | mat _ _ p=>p.dead | rep p=>p.dead
def Us (x:A):T A->Prop
 | nil=>False
 | snd a b p=>x=a\/x=b\/p.Us x
 | rcv a y p=>x=a\/(x≠y/\p.Us x)
 | tau p=>p.Us x
 | sum p q=>p.Us x\/q.Us x
 | par p q=>p.Us x\/q.Us x
 | res y p=>x≠y/\p.Us x
 | mat a b p=>(a=b/\p.Us x)\/(a≠b/\p.dead=false/\(x=a\/x=b\/p.Us x))
 | rep p=>p.Us x
def size:T A->Nat
 | nil=>1 | snd _ _ p=>p.size+1 | rcv _ _ p=>p.size+1 | tau p=>p.size+1 | sum p q=>p.size+q.size+1
 | par p q=>p.size+q.size+1 | res _ p=>p.size+1 | mat _ _ p=>p.size+1 | rep p=>p.size+1
def bw {A:Type}{x:A}:∀{p:T A},p.Us x->p.Fr x
 | snd a b p,h=>by simp only [Us,Fr]at*;exact h.imp id λh=>h.imp id bw
 | rcv a y p,h=>by simp only [Us,Fr]at*;exact h.imp id λh=>h.imp id bw
 | tau p,h=>bw (p:=p) h
 | sum p q,h=>Or.imp bw bw h
 | par p q,h=>Or.imp bw bw h
 | res y p,h=>And.imp id bw h
 | mat a b p,h=>by
  simp only [Us,Fr]at*;rcases h with⟨_,h⟩ | ⟨_,_,h⟩
  ·exact .inr (.inr (bw h))
  ·exact h.imp id λh=>h.imp id bw
 | rep p,h=>bw (p:=p) h
def bD {A:Type}{x:A}:∀{p:T A},p.dead=true->¬p.Us x
 | nil,_,h=>h
 | snd ..,hd,_=>by cases hd
 | rcv ..,hd,_=>by cases hd
 | tau ..,hd,_=>by cases hd
 | sum p q,hd,h=>by
  simp only [dead,M8]at hd;exact h.elim (bD hd.1) (bD hd.2)
 | par p q,hd,h=>by
  simp only [dead,M8]at hd;exact h.elim (bD hd.1) (bD hd.2)
 | res y p,hd,h=>bD (p:=p) hd h.2
 | mat a b p,hd,h=>by
  simp only [dead]at hd;rcases h with⟨_,h⟩ | ⟨_,h,_⟩
  ·exact bD hd h
  ·rw [hd]at h;cases h
 | rep p,hd,h=>bD (p:=p) hd h
end T
def AE:(A->Nat)->T A->(B->Nat)->T B->Prop
 | _,.nil,_,.nil=>True
 | ρ,.snd a b p,σ,.snd c d q=>ρ a=σ c/\ρ b=σ d/\AE ρ p σ q
 | ρ,.rcv a x p,σ,.rcv c y q=>ρ a=σ c/\∀v,AE (aF ρ x v) p (aF σ y v) q
 | ρ,.tau p,σ,.tau q=>AE ρ p σ q
 | ρ,.sum p G,σ,.sum q H=>AE ρ p σ q/\AE ρ G σ H
 | ρ,.par p G,σ,.par q H=>AE ρ p σ q/\AE ρ G σ H
 | ρ,.res x p,σ,.res y q=>∀v,AE (aF ρ x v) p (aF σ y v) q
 | ρ,.mat a b p,σ,.mat c d q=>ρ a=σ c/\ρ b=σ d/\AE ρ p σ q
 | ρ,.rep p,σ,.rep q=>AE ρ p σ q
 | _,_,_,_=>False
def lG {p:T A}{ρ ρ':A->Nat}{x:A}(v:Nat)(h:∀z,z≠x->p.Fr z->ρ z=ρ' z)(z:A)(H:p.Fr z):aF ρ x v z=aF ρ' x v z:=by
 unfold aF;split
 ·rfl
 ·rename_i G;exact h z G H
def AE.congr:∀{p:T A} {q:T B} {ρ ρ':A->Nat} {σ Z:B->Nat},AE ρ p σ q->(∀x,p.Fr x->ρ x=ρ' x)->(∀y,q.Fr y->σ y=Z y)->AE ρ' p Z q:=by
 intro p
 induction p<;>intro q ρ ρ' σ Z h h1 H<;>cases q<;>simp only [AE]at h|-
 case snd.snd J _ _ _=>
  exact⟨by rw [<-h1 _ (.inl rfl),<-H _ (.inl rfl)];exact h.1,by rw [<-h1 _ (.inr (.inl rfl)),<-H _ (.inr (.inl rfl))];exact h.2.1,
   J h.2.2 (λx G=>h1 x (.inr (.inr G))) (λx G=>H x (.inr (.inr G)))⟩
 case mat.mat J _ _ _=>
  exact⟨by rw [<-h1 _ (.inl rfl),<-H _ (.inl rfl)];exact h.1,by rw [<-h1 _ (.inr (.inl rfl)),<-H _ (.inr (.inl rfl))];exact h.2.1,
   J h.2.2 (λx G=>h1 x (.inr (.inr G))) (λx G=>H x (.inr (.inr G)))⟩
 case rcv.rcv J _ _ _=>
  exact⟨by rw [<-h1 _ (.inl rfl),<-H _ (.inl rfl)];exact h.1,
   λv=>J (h.2 v) (lG v λz hz hf=>h1 z (.inr ⟨hz,hf⟩)) (lG v λz hz hf=>H z (.inr ⟨hz,hf⟩))⟩
 case res.res J _ _=>
  exact λv=>J (h v) (lG v λz hz hf=>h1 z ⟨hz,hf⟩) (lG v λz hz hf=>H z ⟨hz,hf⟩)
 case tau.tau J _=>exact J h h1 H
 case rep.rep J _=>exact J h h1 H
 case sum.sum J β _ _=>exact⟨J h.1 (λx G=>h1 x (.inl G)) (λx G=>H x (.inl G)),β h.2 (λx G=>h1 x (.inr G)) (λx G=>H x (.inr G))⟩
 case par.par J β _ _=>exact⟨J h.1 (λx G=>h1 x (.inl G)) (λx G=>H x (.inl G)),β h.2 (λx G=>h1 x (.inr G)) (λx G=>H x (.inr G))⟩
def AE.refl:∀(p:T A) (ρ:A->Nat),AE ρ p ρ p:=by
 intro p
 induction p<;>intro ρ<;>simp_all [AE]
def AE.symm:∀{p:T A} {q:T B} {ρ:A->Nat} {σ:B->Nat},AE ρ p σ q->AE σ q ρ p:=by
 intro p
 induction p<;>intro q ρ σ h<;>cases q<;>simp only [AE]at h|-
 case snd.snd G _ _ _=>exact⟨h.1.symm,h.2.1.symm,G h.2.2⟩
 case mat.mat G _ _ _=>exact⟨h.1.symm,h.2.1.symm,G h.2.2⟩
 case rcv.rcv G _ _ _=>exact⟨h.1.symm,λv=>G (h.2 v)⟩
 case res.res G _ _=>exact λv=>G (h v)
 case tau.tau G _=>exact G h
 case rep.rep G _=>exact G h
 case sum.sum G H _ _=>exact⟨G h.1,H h.2⟩
 case par.par G H _ _=>exact⟨G h.1,H h.2⟩
def AE.trans:∀{p:T A} {q:T B} {r:T C} {ρ:A->Nat} {σ:B->Nat} {τ:C->Nat},AE ρ p σ q->AE σ q τ r->AE ρ p τ r:=by
 intro p
 induction p<;>intro q r ρ σ τ h k<;>cases q<;>simp only [AE]at h<;>cases r<;>simp only [AE]at k|-
 case snd.snd.snd G _ _ _ _ _ _=>exact⟨h.1.trans k.1,h.2.1.trans k.2.1,G h.2.2 k.2.2⟩
 case mat.mat.mat G _ _ _ _ _ _=>exact⟨h.1.trans k.1,h.2.1.trans k.2.1,G h.2.2 k.2.2⟩
 case rcv.rcv.rcv G _ _ _ _ _ _=>exact⟨h.1.trans k.1,λv=>G (h.2 v) (k.2 v)⟩
 case res.res.res G _ _ _ _=>exact λv=>G (h v) (k v)
 case tau.tau.tau G _ _=>exact G h k
 case rep.rep.rep G _ _=>exact G h k
 case sum.sum.sum G H _ _ _ _=>exact⟨G h.1 k.1,H h.2 k.2⟩
 case par.par.par G H _ _ _ _=>exact⟨G h.1 k.1,H h.2 k.2⟩
def zW {A:Type}(p:T A):∀ρ:A->Nat,∃B,∀x,p.Fr x->ρ x< B:=by
 induction p<;>intro ρ
 case nil=>exact⟨0,λx h=>h.elim⟩
 case snd a b p H=>
  obtain⟨n,h⟩:=H ρ;refine⟨n+ρ a+ρ b+1,λx G=>?_⟩;rcases G with rfl | rfl | G
  ·omega
  ·omega
  ·have :=h x G;omega
 case mat a b p H=>
  obtain⟨n,h⟩:=H ρ;refine⟨n+ρ a+ρ b+1,λx G=>?_⟩;rcases G with rfl | rfl | G
  ·omega
  ·omega
  ·have :=h x G;omega
 case rcv a y p H=>
  obtain⟨n,h⟩:=H ρ;refine⟨n+ρ a+1,λx G=>?_⟩;rcases G with rfl | G
  ·omega
  ·have :=h x G.2;omega
 case res y p H=>
  obtain⟨n,h⟩:=H ρ;exact⟨n,λx G=>h x G.2⟩
 case tau p H=>exact H ρ
 case rep p H=>exact H ρ
 case sum p q H J=>
  obtain⟨n,h⟩:=H ρ;obtain⟨m,Z⟩:=J ρ;refine⟨n+m,λx G=>?_⟩;rcases G with G | G
  ·have :=h x G;omega
  ·have :=Z x G;omega
 case par p q H J=>
  obtain⟨n,h⟩:=H ρ;obtain⟨m,Z⟩:=J ρ;refine⟨n+m,λx G=>?_⟩;rcases G with G | G
  ·have :=h x G;omega
  ·have :=Z x G;omega
def bO {A B:Type}(p:T A)(q:T B)(ρ:A->Nat)(σ:B->Nat):∃v,(∀x,p.Fr x->ρ x≠v)/\∀y,q.Fr y->σ y≠v:=by
 obtain⟨n,h⟩:=zW p ρ;obtain⟨m,H⟩:=zW q σ;exact⟨n+m,λx G=>by have :=h x G;omega,λx G=>by have :=H x G;omega⟩
def AE.map:∀{p:T A} {q:T B} {ρ:A->Nat} {σ:B->Nat} (f:Nat->Nat),AE ρ p σ q->AE (λx=>f (ρ x)) p (λx=>f (σ x)) q:=by
 intro p
 induction p<;>intro q ρ σ f h<;>cases q<;>simp only [AE]at h|-
 case snd.snd G _ _ _=>exact⟨N9 f h.1,N9 f h.2.1,G f h.2.2⟩
 case mat.mat G _ _ _=>exact⟨N9 f h.1,N9 f h.2.1,G f h.2.2⟩
 case rcv.rcv p G _ _ q=>
  refine⟨N9 f h.1,λv=>?_⟩;obtain⟨u,h1,Z⟩:=bO p q ρ σ;refine(G (aF f u v) (h.2 u)).congr (λx H=>?_) λx H=>?_<;>unfold aF<;>split
  ·simp
  ·rw [Nt (h1 _ H)]
  ·simp
  ·rw [Nt (Z _ H)]
 case res.res p G _ q=>
  intro v;obtain⟨u,h1,Z⟩:=bO p q ρ σ;refine(G (aF f u v) (h u)).congr (λx H=>?_) λx H=>?_<;>unfold aF<;>split
  ·simp
  ·rw [Nt (h1 _ H)]
  ·simp
  ·rw [Nt (Z _ H)]
 case tau.tau G _=>exact G f h
 case rep.rep G _=>exact G f h
 case sum.sum G J _ _=>exact⟨G f h.1,J f h.2⟩
 case par.par G J _ _=>exact⟨G f h.1,J f h.2⟩
def AE.dead:∀{p:T A} {q:T B} {ρ:A->Nat} {σ:B->Nat},AE ρ p σ q->p.dead=q.dead:=by
 intro p
 induction p<;>intro q ρ σ h<;>cases q<;>simp only [AE]at h<;>simp only [T.dead]
 case res.res G _ _=>exact G (h 0)
 case mat.mat G _ _ _=>exact G h.2.2
 case rep.rep G _=>exact G h
 case sum.sum G H _ _=>rw [G h.1,H h.2]
 case par.par G H _ _=>rw [G h.1,H h.2]
def AE.free:∀{p:T A} {q:T B} {ρ:A->Nat} {σ:B->Nat},AE ρ p σ q->∀x,p.Fr x->∃y,q.Fr y/\σ y=ρ x:=by
 intro p
 induction p<;>intro q ρ σ h x G<;>cases q<;>simp only [AE]at h
 case nil.nil=>exact G.elim
 case snd.snd H _ _ _=>
  rcases G with rfl | rfl | G
  ·exact⟨_,.inl rfl,h.1.symm⟩
  ·exact⟨_,.inr (.inl rfl),h.2.1.symm⟩
  ·obtain⟨y,h1,J⟩:=H h.2.2 x G;exact⟨y,.inr (.inr h1),J⟩
 case mat.mat H _ _ _=>
  rcases G with rfl | rfl | G
  ·exact⟨_,.inl rfl,h.1.symm⟩
  ·exact⟨_,.inr (.inl rfl),h.2.1.symm⟩
  ·obtain⟨y,h1,J⟩:=H h.2.2 x G;exact⟨y,.inr (.inr h1),J⟩
 case rcv.rcv p H _ _ q=>
  rcases G with rfl | ⟨Z,G⟩
  ·exact⟨_,.inl rfl,h.1.symm⟩
  ·obtain⟨u,h1,J⟩:=bO p q ρ σ;obtain⟨y,h3,h4⟩:=H (h.2 u) x G;rw [bz _ _ Z]at h4;unfold aF at h4;split at h4
   ·exact absurd h4.symm (h1 x G)
   ·rename_i hy;exact⟨y,.inr ⟨hy,h3⟩,h4⟩
 case res.res p H _ q=>
  obtain⟨Z,G⟩:=G;obtain⟨u,h1,J⟩:=bO p q ρ σ;obtain⟨y,h3,h4⟩:=H (h u) x G;rw [bz _ _ Z]at h4;unfold aF at h4;split at h4
  ·exact absurd h4.symm (h1 x G)
  ·rename_i hy;exact⟨y,⟨hy,h3⟩,h4⟩
 case tau.tau H _=>exact H h x G
 case rep.rep H _=>exact H h x G
 case sum.sum H β _ _=>
  rcases G with G | G
  ·obtain⟨y,h1,J⟩:=H h.1 x G;exact⟨y,.inl h1,J⟩
  ·obtain⟨y,h1,J⟩:=β h.2 x G;exact⟨y,.inr h1,J⟩
 case par.par H β _ _=>
  rcases G with G | G
  ·obtain⟨y,h1,J⟩:=H h.1 x G;exact⟨y,.inl h1,J⟩
  ·obtain⟨y,h1,J⟩:=β h.2 x G;exact⟨y,.inr h1,J⟩
def ef (ρ:A->Nat)(p:T A):Prop:=∀x y,p.Us x->p.Us y->ρ x=ρ y->x=y
def ef.aF {ρ:A->Nat}{p:T A}{x:A}{v:Nat}(h:∀y z,y≠x->z≠x->p.Us y->p.Us z->ρ y=ρ z->y=z)(H:∀y,y≠x->p.Us y->ρ y≠v):ef (aF ρ x v) p:=by
 intro y z J Z e;unfold Proofs.YthekamjhgabkjaaGreat.aF at e;split at e<;>split at e
 ·rename_i h1 G;rw [h1,G]
 ·rename_i h1 G;exact absurd e.symm (H z G Z)
 ·rename_i h1 G;exact absurd e (H y h1 J)
 ·rename_i h1 G;exact h y z h1 G J Z e
def AE.used:∀{p:T A} {q:T B} {ρ:A->Nat} {σ:B->Nat},AE ρ p σ q->ef ρ p->ef σ q->∀x,p.Us x->∃y,q.Us y/\σ y=ρ x:=by
 intro p
 induction p<;>intro q ρ σ h i j x G<;>cases q<;>simp only [AE]at h
 case nil.nil=>exact G.elim
 case snd.snd ih _ _ _=>
  rcases G with rfl | rfl | G
  ·exact⟨_,.inl rfl,h.1.symm⟩
  ·exact⟨_,.inr (.inl rfl),h.2.1.symm⟩
  ·obtain⟨y,h1,Z⟩:=ih h.2.2 (λx y G H=>i x y (.inr (.inr G)) (.inr (.inr H))) (λx y G H=>j x y (.inr (.inr G)) (.inr (.inr H))) x G;exact⟨y,.inr (.inr h1),Z⟩
 case mat.mat p ih c d q=>
  have hd:p.dead=q.dead:=h.2.2.dead;rcases G with⟨e,G⟩ | ⟨e,γ,G⟩
  ·subst e;have e2:σ c=σ d:=h.1.symm.trans h.2.1;have hl:p.dead=false:=by
    cases hq:p.dead with
    | false=>rfl
    | true=>exact absurd G (T.bD hq)
   have J:c=d:=by
    refine Oy λβ=>β (j c d ?_ ?_ e2)
    ·exact .inr ⟨β,hd▸hl,.inl rfl⟩
    ·exact .inr ⟨β,hd▸hl,.inr (.inl rfl)⟩
   obtain⟨y,h1,Z⟩:=ih h.2.2 (λx y G H=>i x y (.inl ⟨rfl,G⟩) (.inl ⟨rfl,H⟩)) (λx y G H=>j x y (.inl ⟨J,G⟩) (.inl ⟨J,H⟩)) x G;exact⟨y,.inl ⟨J,h1⟩,Z⟩
  ·rename_i a b;have J:c≠d:=by
    rintro rfl
    exact e (i a b (.inr ⟨e,γ,.inl rfl⟩) (.inr ⟨e,γ,.inr (.inl rfl)⟩) (h.1.trans h.2.1.symm))
   have δ:q.dead=false:=hd▸γ;rcases G with rfl | rfl | G
   ·exact⟨c,.inr ⟨J,δ,.inl rfl⟩,h.1.symm⟩
   ·exact⟨d,.inr ⟨J,δ,.inr (.inl rfl)⟩,h.2.1.symm⟩
   ·obtain⟨y,h1,Z⟩:=ih h.2.2 (λx y G H=>i x y (.inr ⟨e,γ,.inr (.inr G)⟩) (.inr ⟨e,γ,.inr (.inr H)⟩))
     (λx y G H=>j x y (.inr ⟨J,δ,.inr (.inr G)⟩) (.inr ⟨J,δ,.inr (.inr H)⟩)) x G
    exact⟨y,.inr ⟨J,δ,.inr (.inr h1)⟩,Z⟩
 case rcv.rcv p ih _ _ q=>
  rcases G with rfl | ⟨β,G⟩
  ·exact⟨_,.inl rfl,h.1.symm⟩
  ·obtain⟨u,h1,Z⟩:=bO p q ρ σ;obtain⟨y,h3,h4⟩:=ih (h.2 u) (.aF (λy z H hz h5 h6=>i y z (.inr ⟨H,h5⟩) (.inr ⟨hz,h6⟩)) λy _ H=>h1 y (T.bw H))
    (.aF (λy z H hz h5 h6=>j y z (.inr ⟨H,h5⟩) (.inr ⟨hz,h6⟩)) λy _ H=>Z y (T.bw H)) x G
   rw [bz _ _ β]at h4;unfold aF at h4;split at h4
   ·exact absurd h4.symm (h1 x (T.bw G))
   ·rename_i H;exact⟨y,.inr ⟨H,h3⟩,h4⟩
 case res.res p ih _ q=>
  obtain⟨β,G⟩:=G;obtain⟨u,h1,Z⟩:=bO p q ρ σ;obtain⟨y,h3,h4⟩:=ih (h u) (.aF (λy z H hz h5 h6=>i y z ⟨H,h5⟩ ⟨hz,h6⟩) λy _ H=>h1 y (T.bw H))
    (.aF (λy z H hz h5 h6=>j y z ⟨H,h5⟩ ⟨hz,h6⟩) λy _ H=>Z y (T.bw H)) x G
  rw [bz _ _ β]at h4;unfold aF at h4;split at h4
  ·exact absurd h4.symm (h1 x (T.bw G))
  ·rename_i H;exact⟨y,⟨H,h3⟩,h4⟩
 case tau.tau ih _=>exact ih h i j x G
 case rep.rep ih _=>exact ih h i j x G
 case sum.sum ih ε _ _=>
  rcases G with G | G
  ·obtain⟨y,h1,Z⟩:=ih h.1 (λx y G H=>i x y (.inl G) (.inl H)) (λx y G H=>j x y (.inl G) (.inl H)) x G;exact⟨y,.inl h1,Z⟩
  ·obtain⟨y,h1,Z⟩:=ε h.2 (λx y G H=>i x y (.inr G) (.inr H)) (λx y G H=>j x y (.inr G) (.inr H)) x G;exact⟨y,.inr h1,Z⟩
 case par.par ih ε _ _=>
  rcases G with G | G
  ·obtain⟨y,h1,Z⟩:=ih h.1 (λx y G H=>i x y (.inl G) (.inl H)) (λx y G H=>j x y (.inl G) (.inl H)) x G;exact⟨y,.inl h1,Z⟩
  ·obtain⟨y,h1,Z⟩:=ε h.2 (λx y G H=>i x y (.inr G) (.inr H)) (λx y G H=>j x y (.inr G) (.inr H)) x G;exact⟨y,.inr h1,Z⟩
def aB (p:T A)(old nm:A)(q:T A):Prop:=∀ρ:A->Nat,AE (aF ρ old (ρ nm)) p ρ q
def sw (c old nm:A):A:=if c=old then nm else c
def mL (ρ:A->Nat)(c old nm:A):aF ρ old (ρ nm) c=ρ (sw c old nm):=by
 unfold aF sw;split<;>rfl
def aB.skip {p:T A}{old nm:A}(h:¬p.Fr old):aB p old nm p:=λρ=>
 (AE.refl p ρ).congr (λx G=>by
  unfold aF;split
  ·rename_i e;subst e;exact absurd G h
  ·rfl) λ _ _=>rfl
def aB.same {p:T A}(old:A):aB p old old p:=λρ=>
 (AE.refl p ρ).congr (λx G=>by
  unfold aF;split
  ·rename_i e;subst e;rfl
  ·rfl) λ _ _=>rfl
def aB.snd {p q:T A}{old nm:A}(a b:A)(h:aB p old nm q):aB (.snd a b p) old nm (.snd (sw a old nm) (sw b old nm) q):=λρ=>
 ⟨mL ..,mL ..,h ρ⟩
def aB.mat {p q:T A}{old nm:A}(a b:A)(h:aB p old nm q):aB (.mat a b p) old nm (.mat (sw a old nm) (sw b old nm) q):=λρ=>
 ⟨mL ..,mL ..,h ρ⟩
def aB.tau {p q:T A}{old nm:A}(h:aB p old nm q):aB (.tau p) old nm (.tau q):=λρ=>h ρ
def aB.rep {p q:T A}{old nm:A}(h:aB p old nm q):aB (.rep p) old nm (.rep q):=λρ=>h ρ
def aB.sum {p q G H:T A}{old nm:A}(h:aB p old nm q)(J:aB G old nm H):aB (.sum p G) old nm (.sum q H):=λρ=>⟨h ρ,J ρ⟩
def aB.par {p q G H:T A}{old nm:A}(h:aB p old nm q)(J:aB G old nm H):aB (.par p G) old nm (.par q H):=λρ=>⟨h ρ,J ρ⟩
def aB.under {p q:T A}{old nm x:A}(H:x≠old)(G:x≠nm\/¬p.Fr old)(h:aB p old nm q)(ρ:A->Nat)(v:Nat):
  AE (aF (aF ρ old (ρ nm)) x v) p (aF ρ x v) q:=by
 refine(h (aF ρ x v)).congr (λz J=>?_) λ _ _=>rfl
 by_cases h1:z=old
 ·subst h1;rcases G with G | G
  ·simp [aF,P' G,P' H]
  ·exact absurd J G
 ·by_cases Z:z=x<;>simp [aF,h1,Z,H]
def aB.over {p:T A}{old nm:A}(ρ:A->Nat)(v:Nat):AE (aF (aF ρ old (ρ nm)) old v) p (aF ρ old v) p:=by
 refine(AE.refl p (aF ρ old v)).congr (λz G=>?_) λ _ _=>rfl
 unfold aF;split<;>rfl
def aB.cap {p p1 p2:T A}{old nm y:A}(ho:nm≠old)(hy:¬p.Fr y)(G:y≠old)(H:y≠nm)(h1:aB p nm y p1)(h2:aB p1 old nm p2)(ρ:A->Nat)(v:Nat):
  AE (aF (aF ρ old (ρ nm)) nm v) p (aF ρ y v) p2:=by
 have k2:=h2 (aF ρ y v);have k1:=h1 (aF (aF ρ y v) old (aF ρ y v nm));refine(AE.trans k1 k2).congr (λz hz=>?_) λ _ _=>rfl
 have J:z≠y:=by rintro rfl;exact hy hz
 by_cases Z:z=nm
 ·subst Z;simp [aF,G]
 ·by_cases e2:z=old
  ·subst e2;simp [aF,Z,P' H]
  ·simp [aF,Z,e2,J]
def aB.DV {p q:T A}{old nm x:A}(G:x≠old)(H:x≠nm\/¬p.Fr old)(h:aB p old nm q):aB (.res x p) old nm (.res x q):=λρ v=>h.under G H ρ v
def aB.Eu {p q:T A}{old nm x:A}(a:A)(G:x≠old)(H:x≠nm\/¬p.Fr old)(h:aB p old nm q):aB (.rcv a x p) old nm (.rcv (sw a old nm) x q):=λρ=>
 ⟨mL ..,λv=>h.under G H ρ v⟩
def aB.Gz {p:T A}{old nm:A}(a:A):aB (.rcv a old p) old nm (.rcv (sw a old nm) old p):=λρ=>⟨mL ..,λv=>aB.over ρ v⟩
def aB.HC {p J Z:T A}{old nm y:A}(ho:nm≠old)(hy:¬p.Fr y)(G:y≠old)(H:y≠nm)(h1:aB p nm y J)(h2:aB J old nm Z):aB (.res nm p) old nm (.res y Z):=λρ v=>
 aB.cap ho hy G H h1 h2 ρ v
def aB.Ia {p J Z:T A}{old nm y:A}(a:A)(ho:nm≠old)(hy:¬p.Fr y)(G:y≠old)(H:y≠nm)(h1:aB p nm y J)(h2:aB J old nm Z):aB (.rcv a nm p) old nm (.rcv (sw a old nm) y Z):=λρ=>
 ⟨mL ..,λv=>aB.cap ho hy G H h1 h2 ρ v⟩
def AE.renamed {p q:T A}{old nm:A}(h:aB p old nm q){u:T B}{ρ:A->Nat}{σ:B->Nat}(G:∀x,p.Fr x->ρ x=ρ old->x=old)(k:AE ρ p σ u):AE ρ q (λx=>if σ x=ρ old then ρ nm else σ x) u:=by
 have H:=k.map (λv=>if v=ρ old then ρ nm else v);refine(h ρ).symm.trans (H.congr (λx J=>?_) λ _ _=>rfl);unfold aF;by_cases e:x=old
 ·subst e;simp
 ·rw [Nt (λh=>e (G x J h)),Nt e]
end
inductive K where
 | s | r | t | m | p
 deriving DecidableEq
inductive Lv where
 | nil
 | thr (k:K) (a b:Nat) (own:List Nat) (rest:Lv) (next:Lv)
 | sum (parts:Lv) (next:Lv)
 | part (own:List Nat) (q:Lv) (next:Lv)
namespace Lv
def app:Lv->Lv->Lv
 | nil,m=>m
 | thr k a b o r n,m=>thr k a b o r (n.app m)
 | sum ps n,m=>sum ps (n.app m)
 | part o q n,m=>part o q (n.app m)
def len:Lv->Nat
 | nil=>0 | thr _ _ _ _ _ n=>n.len+1 | sum _ n=>n.len+1 | part _ _ n=>n.len+1
def isNil:Lv->Bool
 | nil=>true | _=>false
def aT:∀l:Lv,l.app nil=l
 | nil=>rfl
 | thr k a b o r n=>by rw [app,aT n]
 | sum ps n=>by rw [app,aT n]
 | part o q n=>by rw [app,aT n]
def cc:∀l m n:Lv,(l.app m).app n=l.app (m.app n)
 | nil,m,n=>rfl
 | thr k a b o r x,m,n=>by simp only [app,cc x m n]
 | sum ps x,m,n=>by simp only [app,cc x m n]
 | part o q x,m,n=>by simp only [app,cc x m n]
def dT:∀l m:Lv,(l.app m).len=l.len+m.len
 | nil,m=>by simp [app,len]
 | thr k a b o r x,m=>by simp only [app,len,dT x m];omega
 | sum ps x,m=>by simp only [app,len,dT x m];omega
 | part o q x,m=>by simp only [app,len,dT x m];omega
def cT (l:Lv):l.isNil=decide (l.len=0):=by cases l<;>simp [isNil,len]
def has (x:Nat):Lv->Bool
 | nil=>false
 | thr k a b _ rest next=>((k== .s||k== .m||k== .r)&&(a==x||b==x))||rest.has x||next.has x
 | sum ps next=>ps.has x||next.has x
 | part _ q next=>q.has x||next.has x
def cH (x:Nat):∀l m:Lv,(l.app m).has x=(l.has x||m.has x)
 | nil,m=>by simp [app,has]
 | thr k a b o r n,m=>by simp only [app,has,cH x n m,OL]
 | sum ps n,m=>by simp only [app,has,cH x n m,OL]
 | part o q n,m=>by simp only [app,has,cH x n m,OL]
def spl (ps:Lv)(n:List Nat×Lv):List Nat×Lv:=match ps with
 | nil=>n
 | part o q nil=>(o++n.1,q.app n.2)
 | ps=>(n.1,sum ps n.2)
def prt (o:List Nat)(q:Lv)(n:Lv):Lv:=match q with
 | nil=>n
 | sum ps nil=>if o.isEmpty then ps.app n else part o q n
 | q=>part o q n
def kept (own:List Nat)(r:List Nat×Lv):List Nat×Lv:=((own++r.1).filter λx=>r.2.has x,r.2)
def tid:Lv->List Nat×Lv
 | nil=>([],nil)
 | thr k a b own rest next=>
  let r:=kept own (tid rest)
  let n:=tid next
  if k= .m/\a=b then(r.1++n.1,r.2.app n.2)
  else if(k= .m\/k= .p)/\r.2.isNil=true then n
  else(n.1,thr k a b r.1 r.2 n.2)
 | sum ps next=>spl (tid ps).2 (tid next)
 | part own q next=>let r:=kept own (tid q);([],prt r.1 r.2 (tid next).2)
def tidy (own:List Nat)(l:Lv):List Nat×Lv:=kept own (tid l)
def fe:Lv->Bool
 | nil=>true | thr _ _ _ _ _ n=>n.fe | sum _ n=>n.fe | part .. =>false
def nN:∀l m:Lv,(l.app m).fe=(l.fe&&m.fe)
 | nil,m=>by simp [app,fe]
 | thr k a b o r n,m=>by simp only [app,fe,nN n m]
 | sum ps n,m=>by simp only [app,fe,nN n m]
 | part o q n,m=>by simp [app,fe]
def HO (ps:Lv)(n m:List Nat×Lv):spl ps (n.1++m.1,n.2.app m.2)=((spl ps n).1++m.1,(spl ps n).2.app m.2):=by
 unfold spl;split<;>simp [app,cc]
def ct:∀l m:Lv,l.fe=true->tid (l.app m)=((tid l).1++(tid m).1,(tid l).2.app (tid m).2)
 | nil,m,_=>by simp [app,tid]
 | thr k a b o r n,m,h=>by
  simp only [app,tid,ct n m h];split
  ·simp [cc]
  ·split
   ·rfl
   ·simp [app]
 | sum ps n,m,h=>by
  simp only [app,tid,ct n m h];exact HO _ _ _
 | part ..,_,h=>by cases h
end Lv
abbrev U:=T Nat
def flat:U->List Nat×Lv
 | .nil=>([],.nil)
 | .snd a b p=>([],.thr .s a b (flat p).1 (flat p).2 .nil)
 | .rcv a x p=>([],.thr .r a x (flat p).1 (flat p).2 .nil)
 | .tau p=>([],.thr .t 0 0 (flat p).1 (flat p).2 .nil)
 | .sum p q=>([],.sum (.part (flat p).1 (flat p).2 (.part (flat q).1 (flat q).2 .nil)) .nil)
 | .par p q=>((flat p).1++(flat q).1,(flat p).2.app (flat q).2)
 | .res x p=>(x::(flat p).1,(flat p).2)
 | .mat a b p=>([],.thr .m a b (flat p).1 (flat p).2 .nil)
 | .rep p=>([],.thr .p 0 0 (flat p).1 (flat p).2 .nil)
def bP:∀u:U,(flat u).2.fe=true
 | .nil=>rfl | .snd .. =>rfl | .rcv .. =>rfl | .tau .. =>rfl | .sum .. =>rfl | .mat .. =>rfl | .rep .. =>rfl
 | .res x p=>bP p
 | .par p q=>by simp [flat,Lv.nN,bP p,bP q]
def td (u:U):List Nat×Lv:=Lv.tidy (flat u).1 (flat u).2
def BV:U->List Nat
 | .nil=>[] | .snd _ _ p=>BV p | .rcv _ x p=>x::BV p | .tau p=>BV p | .sum p q=>BV p++BV q
 | .par p q=>BV p++BV q | .res x p=>x::BV p | .mat _ _ p=>BV p | .rep p=>BV p
structure Uq (u:U):Prop where
 nd:(BV u).Nodup
 nf:∀x∈BV u,¬u.Fr x
section
variable {a b x:Nat} {p q:U}
def Uq.snd (h:Uq (.snd a b p)):Uq p:=⟨h.nd,λx G H=>h.nf x G (.inr (.inr H))⟩
def Uq.mat (h:Uq (.mat a b p)):Uq p:=⟨h.nd,λx G H=>h.nf x G (.inr (.inr H))⟩
def Uq.tau (h:Uq (.tau p)):Uq p:=⟨h.nd,h.nf⟩
def Uq.rep (h:Uq (.rep p)):Uq p:=⟨h.nd,h.nf⟩
def Uq.rcv (h:Uq (.rcv a x p)):Uq p:=by
 have h1:=N7.1 h.nd;exact⟨h1.2,λy G H=>h.nf y (Nh _ G) (.inr ⟨λe=>h1.1 (e▸G),H⟩)⟩
def Uq.res (h:Uq (.res x p)):Uq p:=by
 have h1:=N7.1 h.nd;exact⟨h1.2,λy G H=>h.nf y (Nh _ G) ⟨λe=>h1.1 (e▸G),H⟩⟩
def Uq.fD (h:Uq (.res x p)):x∉BV p:=(N7.1 h.nd).1
def Uq.jb (h:Uq (.rcv a x p)):x∉BV p:=(N7.1 h.nd).1
def Uq.fK (h:Uq (.par p q)):Uq p:=⟨(NU.1 h.nd).1,λx G H=>h.nf x (NS _ G) (.inl H)⟩
def Uq.eV (h:Uq (.par p q)):Uq q:=⟨(NU.1 h.nd).2.1,λx G H=>h.nf x (NG _ G) (.inr H)⟩
def Uq.dF (h:Uq (.sum p q)):Uq p:=⟨(NU.1 h.nd).1,λx G H=>h.nf x (NS _ G) (.inl H)⟩
def Uq.dh (h:Uq (.sum p q)):Uq q:=⟨(NU.1 h.nd).2.1,λx G H=>h.nf x (NG _ G) (.inr H)⟩
end
def aj:U->List Nat×List U
 | .nil=>([],[])
 | .snd a b p=>([],[.snd a b p])
 | .rcv a x p=>([],[.rcv a x p])
 | .tau p=>([],[.tau p])
 | .sum p q=>if p.dead then aj q else if q.dead then aj p else([],[.sum p q])
 | .par p q=>((aj p).1++(aj q).1,(aj p).2++(aj q).2)
 | .res x p=>(if(td p).2.has x then x::(aj p).1 else(aj p).1,(aj p).2)
 | .mat a b p=>if a=b then aj p else if p.dead then([],[])else([],[.mat a b p])
 | .rep p=>if p.dead then([],[])else([],[.rep p])
def ak:U->List U
 | .nil=>[]
 | .snd a b p=>[.snd a b p]
 | .rcv a x p=>[.rcv a x p]
 | .tau p=>[.tau p]
 | .sum p q=>ak p++ak q
 | .par p q=>if p.dead then ak q else if q.dead then ak p else [.par p q]
 | .res x p=>if(td p).2.has x then [.res x p]else ak p
 | .mat a b p=>if a=b then ak p else if p.dead then []else [.mat a b p]
 | .rep p=>if p.dead then []else [.rep p]
def tp:List U->Lv
 | []=> .nil
 | u::l=> .part (td u).1 (td u).2 (tp l)
def tl:List U->Lv
 | []=> .nil
 | .snd a b p::l=> .thr .s a b (td p).1 (td p).2 (tl l)
 | .rcv a x p::l=> .thr .r a x (td p).1 (td p).2 (tl l)
 | .tau p::l=> .thr .t 0 0 (td p).1 (td p).2 (tl l)
 | .mat a b p::l=> .thr .m a b (td p).1 (td p).2 (tl l)
 | .rep p::l=> .thr .p 0 0 (td p).1 (td p).2 (tl l)
 | .sum p q::l=> .sum (tp (ak p++ak q)) (tl l)
 | _::l=>tl l
def gj:∀l m:List U,tl (l++m)=(tl l).app (tl m)
 | [],m=>rfl
 | u::l,m=>by cases u<;>simp only [N6,tl,Lv.app,gj l m]
def se:∀l m:List U,tp (l++m)=(tp l).app (tp m)
 | [],m=>rfl
 | u::l,m=>by simp only [N6,tp,Lv.app,se l m]
def By:∀l:List U,(tp l).len=l.length
 | []=>rfl
 | u::l=>by simp only [tp,Lv.len,M0,By l]
def cp (u:U):Lv:=Lv.prt (td u).1 (td u).2 .nil
def lT (o:List Nat)(q n:Lv):Lv.prt o q n=(Lv.prt o q .nil).app n:=by
 unfold Lv.prt;split
 ·rfl
 ·split<;>simp [Lv.app,Lv.aT]
 ·rfl
def qD (u:U):(td u).2=(Lv.tid (flat u).2).2:=rfl
def nX (p q:U):Lv.tid (flat (.sum p q)).2=Lv.spl ((cp p).app (cp q)) ([],.nil):=by
 simp only [flat,Lv.tid]
 congr 1
 rw [lT];rfl
def oM (a b:Nat)(p:U):Lv.tid (flat (.mat a b p)).2=if a=b then td p else if(td p).2.isNil then([],.nil)else([],.thr .m a b (td p).1 (td p).2 .nil):=by
 have hk:(Lv.kept (flat p).1 (Lv.tid (flat p).2))=td p:=rfl;simp only [flat,Lv.tid,hk,NM,Lv.aT];by_cases h:a=b<;>simp [h]
def oG (p:U):Lv.tid (flat (.rep p)).2=if(td p).2.isNil then([],.nil)else([],.thr .p 0 0 (td p).1 (td p).2 .nil):=by
 have hk:(Lv.kept (flat p).1 (Lv.tid (flat p).2))=td p:=rfl;simp only [flat,Lv.tid,hk];simp
def bF:∀u:U,((td u).2.len=0↔u.dead=true)/\((cp u).len=0↔u.dead=true)/\(td u).2.fe=true/\(∀ps,(td u).2= .sum ps .nil->2<=ps.len):=by
 intro u;have γ:∀u:U,(((td u).2.len=0↔u.dead=true)/\(td u).2.fe=true/\(∀ps,(td u).2= .sum ps .nil->2<=ps.len))->((cp u).len=0↔u.dead=true):=by
  intro u ⟨h,_,h2⟩;rw [<-h];unfold cp Lv.prt;split
  ·rename_i e;rw [e]
  ·rename_i ps e;have :=h2 ps e;rw [e];split<;>simp [Lv.len,Lv.dT]<;>omega
  ·rename_i e1 e2;cases e:(td u).2<;>simp [Lv.len]
   exact e1 e
 suffices h:((td u).2.len=0↔u.dead=true)/\(td u).2.fe=true/\(∀ps,(td u).2= .sum ps .nil->2<=ps.len)from⟨h.1,γ u h,h.2⟩
 induction u with
 | nil=>simp [qD,flat,Lv.tid,Lv.len,T.dead,Lv.fe]
 | snd a b p G=>simp [qD,flat,Lv.tid,Lv.len,T.dead,Lv.fe]
 | rcv a b p G=>simp [qD,flat,Lv.tid,Lv.len,T.dead,Lv.fe]
 | tau p G=>simp [qD,flat,Lv.tid,Lv.len,T.dead,Lv.fe]
 | res x p G=>exact G
 | par p q G H=>
  have e:(td (.par p q)).2=(td p).2.app (td q).2:=by simp only [qD,flat,Lv.ct _ _ (bP p)]
  rw [e];refine⟨?_,?_,λps hs=>?_⟩
  ·rw [Lv.dT,T.dead,M8,<-G.1,<-H.1];omega
  ·rw [Lv.nN,G.2.1,H.2.1];rfl
  ·cases h:(td p).2 with
   | nil=>rw [h]at hs;exact H.2.2 ps hs
   | thr=>rw [h]at hs;cases hs
   | part=>rw [h]at hs;cases hs
   | sum ζ n=>
    rw [h]at hs;simp only [Lv.app,Lv.sum.injEq]at hs;obtain⟨rfl,hn⟩:=hs;have:n= .nil:=by
     cases n<;>simp [Lv.app]at hn
     rfl
    subst this;exact G.2.2 _ h
 | mat a b p G=>
  rw [qD,oM,Lv.cT];by_cases δ:a=b
  ·rw [NO δ];exact G
  ·rw [Nt δ];by_cases hd:(td p).2.len=0
   ·simp only [hd,decide_true,O9,Lv.len,T.dead,G.1.1 hd,Lv.fe,PE];intro ps h;cases h
   ·have:p.dead=false:=by
     cases h:p.dead with
     | false=>rfl
     | true=>exact absurd (G.1.2 h) hd
    simp [hd,Lv.len,T.dead,this,Lv.fe]
 | rep p G=>
  rw [qD,oG,Lv.cT];by_cases hd:(td p).2.len=0
  ·simp only [hd,decide_true,O9,Lv.len,T.dead,G.1.1 hd,Lv.fe,PE];intro ps h;cases h
  ·have:p.dead=false:=by
    cases h:p.dead with
    | false=>rfl
    | true=>exact absurd (G.1.2 h) hd
   simp [hd,Lv.len,T.dead,this,Lv.fe]
 | sum p q G H=>
  have h1:=γ p G;have h2:=γ q H;rw [qD,nX];have hlen:((cp p).app (cp q)).len=0↔(T.sum p q).dead=true:=by
   rw [Lv.dT,T.dead,M8,<-h1,<-h2];omega
  have β:∀u:U,(((td u).2.len=0↔u.dead=true)/\(td u).2.fe=true/\(∀ps,(td u).2= .sum ps .nil->2<=ps.len))->∀o r,cp u= .part o r .nil->o=(td u).1/\r=(td u).2/\r.len≠0:=by
   intro u ⟨h,h3,h4⟩ o r he;unfold cp Lv.prt at he;split at he
   ·cases he
   ·rename_i ps e;split at he
    ·rw [Lv.aT]at he;have :=h4 ps e;rw [he]at this;simp [Lv.len]at this
    ·cases he;exact⟨rfl,rfl,by rw [e];simp [Lv.len]⟩
   ·rename_i e1 e2;cases he;refine⟨rfl,rfl,λJ=>e1 ?_⟩;cases e:(td u).2<;>rw [e]at J<;>first | rfl | (simp [Lv.len]at J)
  unfold Lv.spl;split
  ·rename_i e;rw [e]at hlen;simp only [Lv.len,true_iff]at hlen;simp [Lv.len,hlen,Lv.fe]
  ·rename_i o r e;have hl:(T.sum p q).dead=false:=by
    cases h:(T.sum p q).dead with
    | false=>rfl
    | true=>rw [<-hlen,e]at h;simp [Lv.len]at h
   simp only [Lv.aT,hl];have key:(cp p= .nil/\cp q= .part o r .nil)\/(cp p= .part o r .nil/\cp q= .nil):=by
    cases hc:cp p with
    | nil=>rw [hc]at e;exact .inl ⟨rfl,e⟩
    | thr=>rw [hc]at e;cases e
    | sum=>rw [hc]at e;cases e
    | part o' r' n=>
     rw [hc]at e;simp only [Lv.app,Lv.part.injEq]at e;obtain⟨rfl,rfl,e⟩:=e;cases n<;>simp only [Lv.app]at e
     ·exact .inr ⟨rfl,e⟩
     all_goals cases e
   rcases key with⟨_,hc⟩ | ⟨hc,_⟩
   ·obtain⟨_,rfl,J⟩:=β q H o r hc;exact⟨by simp [J],H.2.1,H.2.2⟩
   ·obtain⟨_,rfl,J⟩:=β p G o r hc;exact⟨by simp [J],G.2.1,G.2.2⟩
  ·rename_i ps e1 e2;have ε:((cp p).app (cp q)).len≠0:=by
    intro J;apply e1;cases h:(cp p).app (cp q)<;>rw [h]at J<;>first | rfl | (simp [Lv.len]at J)
   have hl:(T.sum p q).dead=false:=by
    cases h:(T.sum p q).dead with
    | false=>rfl
    | true=>exact absurd (hlen.2 h) ε
   refine⟨by simp [Lv.len,hl],rfl,λζ hs=>?_⟩;simp only [Lv.sum.injEq,Qv]at hs;subst hs;have Z:∀u:U,(((td u).2.len=0↔u.dead=true)/\(td u).2.fe=true/\(∀ps,(td u).2= .sum ps .nil->2<=ps.len))->(cp u).len=1->∃o r,cp u= .part o r .nil:=by
    intro u ⟨h,h3,h4⟩ hl;unfold cp Lv.prt at hl|-;split at hl
    ·simp [Lv.len]at hl
    ·rename_i ps e;split at hl
     ·rw [Lv.aT]at hl;have :=h4 ps e;omega
     ·rename_i hh;rw [Nt hh];exact⟨_,_,rfl⟩
    ·exact⟨_,_,rfl⟩
   rw [Lv.dT]at ε|-;rcases ON 1 ((cp p).len+(cp q).len)with h | h
   ·omega
   ·exfalso;rcases Pv (cp p).len with J | J
    ·obtain⟨o,r,hc⟩:=Z q H (by omega);have:cp p= .nil:=by cases hh:cp p<;>rw [hh]at J<;>first | rfl | (simp [Lv.len]at J)
     exact e2 o r (by rw [this,hc];rfl)
    ·obtain⟨o,r,hc⟩:=Z p G (by omega);have:cp q= .nil:=by
      have J:(cp q).len=0:=by omega
      cases hh:cp q<;>rw [hh]at J<;>first | rfl | (simp [Lv.len]at J)
     exact e2 o r (by rw [this,hc];rfl)
def ID (x:Nat)(ps:Lv)(n:List Nat×Lv):(Lv.spl ps n).2.has x=(ps.has x||n.2.has x):=by
 unfold Lv.spl;split<;>simp [Lv.has,Lv.cH]
def Ix (x:Nat)(o:List Nat)(q n:Lv):(Lv.prt o q n).has x=(q.has x||n.has x):=by
 unfold Lv.prt;split
 ·simp [Lv.has]
 ·split<;>simp [Lv.has,Lv.cH]
 ·simp [Lv.has]
def E4 (x:Nat)(u:U):(cp u).has x=(td u).2.has x:=by
 simp [cp,Ix,Lv.has]
def j9 (u:U):u.dead=false↔(td u).2.len≠0:=by
 rw [Ne,(bF u).1];simp
def gv {l:Lv}(h:l.len=0):l= .nil:=by
 cases l<;>first | rfl | (simp [Lv.len]at h)
def lP {u:U}(h:u.dead=true):(td u).2= .nil:=gv ((bF u).1.2 h)
def de (u:U):(td u).2.isNil=u.dead:=by
 rw [Lv.cT];cases h:u.dead with
 | true=>simp [(bF u).1.2 h]
 | false=>simpa using(j9 u).1 h
def fH:∀(u:U) (x:Nat),x∉BV u->((td u).2.has x=true↔u.Us x):=by
 intro u
 induction u with
 | nil=>intro x _;simp [qD,flat,Lv.tid,Lv.has,T.Us]
 | snd a b p H=>
  intro x J;have hk:(Lv.kept (flat p).1 (Lv.tid (flat p).2))=td p:=rfl;have :=H x J;simp [qD,flat,Lv.tid,Lv.has,T.Us,hk];rw [<-qD,this,<-Qf,eq_comm (a:=a),eq_comm (a:=b)]
 | rcv a y p H=>
  intro x J;have G:x≠y/\x∉BV p:=by simpa [BV]using J
  have hk:(Lv.kept (flat p).1 (Lv.tid (flat p).2))=td p:=rfl;have :=H x G.2;simp [qD,flat,Lv.tid,Lv.has,T.Us,hk,G.1];rw [<-qD,this,eq_comm (a:=a)];simp [P' G.1]
 | tau p H=>
  intro x J;have hk:(Lv.kept (flat p).1 (Lv.tid (flat p).2))=td p:=rfl;simp [qD,flat,Lv.tid,Lv.has,T.Us,hk];rw [<-qD,H x J]
 | sum p q H β=>
  intro x J;have G:x∉BV p/\x∉BV q:=by simpa [BV]using J
  rw [qD,nX,ID,Lv.cH,E4,E4];simp [T.Us,Lv.has,H x G.1,β x G.2]
 | par p q H β=>
  intro x J;have G:x∉BV p/\x∉BV q:=by simpa [BV]using J
  have e:(td (.par p q)).2=(td p).2.app (td q).2:=by simp only [qD,flat,Lv.ct _ _ (bP p)]
  rw [e,Lv.cH];simp [T.Us,H x G.1,β x G.2]
 | res y p H=>
  intro x J;have G:x≠y/\x∉BV p:=by simpa [BV]using J
  show(td p).2.has x=true↔_;simp [T.Us,H x G.2,G.1]
 | mat a b p H=>
  intro x J;have :=H x J;rw [qD,oM];by_cases Z:a=b
  ·subst Z;simp [T.Us,this]
  ·rw [Nt Z,de];cases hd:p.dead with
   | true=>simp [Lv.has,T.Us,hd,Z]
   | false=>
    simp [Lv.has,T.Us,hd,Z,this];rw [<-Qf,eq_comm (a:=a),eq_comm (a:=b)]
 | rep p H=>
  intro x J;rw [qD,oG,de];cases hd:p.dead with
  | true=>simp [Lv.has,T.Us];exact T.bD hd
  | false=>simp [Lv.has,T.Us,H x J]
def pI (own:List Nat)(r:List Nat×Lv):Lv.kept [] (Lv.kept own r)=Lv.kept own r:=by
 simp [Lv.kept,List.filter_filter]
def Gb (u:U):Lv.spl (cp u) ([],.nil)=td u:=by
 have h1:=(bF u).2.2.2;have J:=(bF u).2.2.1;have G:(td u).2= .nil->(td u).1=[]:=by
  intro e;show List.filter (λx=>(td u).2.has x) _=[];rw [e];simp [Lv.has]
 unfold cp Lv.prt;split
 ·rename_i e;simp only [Lv.spl];exact Prod.ext (G e).symm e.symm
 ·rename_i ps e;split
  ·rename_i H;rw [Lv.aT];have :=h1 ps e;unfold Lv.spl;split
   ·simp [Lv.len]at this
   ·simp [Lv.len]at this
   ·exact Prod.ext (by simpa using H.symm) e.symm
  ·simp [Lv.spl,Lv.aT]
 ·simp [Lv.spl,Lv.aT]
def filter_false {l:List Nat}{f:Nat->Bool}(h:∀x∈l,f x=false):l.filter f=[]:=by
 simpa [List.filter_eq_nil_iff]using h
def Lv.WO:Lv->Prop
 | .nil=>True
 | .thr _ _ _ o r n=>(∀x∈o,r.has x=true)/\r.WO/\n.WO
 | .sum ps n=>ps.WO/\n.WO
 | .part o q n=>(∀x∈o,q.has x=true)/\q.WO/\n.WO
def px:∀l m:Lv,(l.app m).WO↔l.WO/\m.WO
 | .nil,m=>by simp [Lv.app,Lv.WO]
 | .thr k a b o r n,m=>by simp only [Lv.app,Lv.WO,px n m,Pk]
 | .sum ps n,m=>by simp only [Lv.app,Lv.WO,px n m,Pk]
 | .part o q n,m=>by simp only [Lv.app,Lv.WO,px n m,Pk]
def rF (own:List Nat)(r:List Nat×Lv):∀x∈(Lv.kept own r).1,(Lv.kept own r).2.has x=true:=by
 intro y G;simp only [Lv.kept,List.mem_filter]at G;exact G.2
def J3 {o:List Nat}{q n:Lv}(h:∀x∈o,q.has x=true)(H:q.WO)(G:n.WO):(Lv.prt o q n).WO:=by
 unfold Lv.prt;split
 ·exact G
 ·split
  ·exact(px _ _).2 ⟨H.1,G⟩
  ·exact⟨h,H,G⟩
 ·exact⟨h,H,G⟩
def Dm:∀(l:Lv),(Lv.tid l).2.WO/\∀x∈(Lv.tid l).1,(Lv.tid l).2.has x=true:=by
 intro l
 induction l with
 | nil=>exact⟨trivial,λx H=>by simp [Lv.tid]at H⟩
 | thr k a b o r n Z G=>
  have hk:=rF o (Lv.tid r);simp only [Lv.tid];split
  ·refine⟨(px _ _).2 ⟨Z.1,G.1⟩,λx H=>?_⟩;simp only [Nk]at H;rw [Lv.cH];rcases H with H | H
   ·simp [hk x H]
   ·simp [G.2 x H]
  ·split
   ·exact G
   ·refine⟨⟨hk,Z.1,G.1⟩,λx H=>?_⟩;simp [Lv.has,G.2 x H]
 | sum ps n J G=>
  simp only [Lv.tid];unfold Lv.spl;split
  ·exact G
  ·rename_i o q e;rw [e]at J;refine⟨(px _ _).2 ⟨J.1.2.1,G.1⟩,λx H=>?_⟩;simp only [Nk]at H;rw [Lv.cH];rcases H with H | H
   ·simp [J.1.1 x H]
   ·simp [G.2 x H]
  ·exact⟨⟨J.1,G.1⟩,λx H=>by simp [Lv.has,G.2 x H]⟩
 | part o q n β G=>
  simp only [Lv.tid];exact⟨J3 (rF o _) β.1 G.1,λx H=>by simp at H⟩
def vz:∀(u:U),(∀x∈(flat u).1,x∈BV u)/\∀x∈(Lv.tid (flat u).2).1,x∈BV u:=by
 intro u;have Z:∀u:U,((∀x∈(flat u).1,x∈BV u)/\∀x∈(Lv.tid (flat u).2).1,x∈BV u)->∀x∈(td u).1,x∈BV u:=by
  intro u h x G;have G:x∈(Lv.kept (flat u).1 (Lv.tid (flat u).2)).1:=G;simp only [Lv.kept,List.mem_filter,Nk]at G;exact G.1.elim (h.1 x) (h.2 x)
 have β:∀u:U,(∀x∈(td u).1,x∈BV u)->∀o q n,cp u= .part o q n->(2<=(cp u).len)\/∀x∈o,x∈BV u:=by
  intro u h o q n e;have h1:=(bF u).2.2.2;unfold cp Lv.prt at e|-;split at e
  ·cases e
  ·rename_i ps e';split at e
   ·rename_i hh;rw [NO hh];left;rw [Lv.aT];exact h1 ps e'
   ·cases e;exact .inr h
  ·cases e;exact .inr h
 induction u with
 | nil=>simp [flat,Lv.tid]
 | snd a b p H=>simp [flat,Lv.tid]
 | rcv a x p H=>simp [flat,Lv.tid]
 | tau p H=>simp [flat,Lv.tid]
 | rep p H=>rw [oG];split<;>simp [flat]
 | mat a b p H=>
  rw [oM];refine⟨by simp [flat],?_⟩;split
  ·exact Z p H
  ·split<;>simp
 | res x p H=>
  refine⟨λy hy=>?_,λy hy=>Nh _ (H.2 y hy)⟩;simp only [flat,Nw]at hy;rcases hy with rfl | hy
  ·exact NP ..
  ·exact Nh _ (H.1 y hy)
 | par p q H J=>
  simp only [flat,Lv.ct _ _ (bP p),Nk,BV];exact⟨λx G=>G.imp (H.1 x) (J.1 x),λx G=>G.imp (H.2 x) (J.2 x)⟩
 | sum p q H J=>
  refine⟨by simp [flat],?_⟩;rw [nX];intro x G;unfold Lv.spl at G;split at G
  ·simp at G
  ·rename_i o r e;simp only [NM]at G;simp only [BV,Nk];have hl:=N9 Lv.len e;rw [Lv.dT]at hl;simp only [Lv.len]at hl;rcases Pv (cp p).len with h0 | h0
   ·rw [gv h0]at e;rcases β q (Z q J) o r .nil e with h | h
    ·omega
    ·exact .inr (h x G)
   ·have:cp q= .nil:=gv (by omega);rw [this,Lv.aT]at e;rcases β p (Z p H) o r .nil e with h | h
    ·omega
    ·exact .inl (h x G)
  ·simp at G
def LU (u:U):(td u).1=((flat u).1++(Lv.tid (flat u).2).1).filter λx=>(td u).2.has x:=rfl
def CC {u:U}{x:Nat}(hb:x∉BV u)(G:¬u.Fr x):(td u).2.has x=false:=by
 cases h:(td u).2.has x with
 | false=>rfl
 | true=>exact absurd (T.bw ((fH u x hb).1 h)) G
def EG {l:List U}(h:(tp l).len=0):l=[]:=by
 rw [By]at h;exact NF h
def sf (a b c d:List Nat):((a++b)++(c++d)).Perm ((a++c)++(b++d)):=by
 rw [NX,NX];refine List.Perm.append_left a ?_;rw [<-NX,<-NX];exact List.Perm.append_right d PY
def fF:∀u:U,Uq u->(td u).2=tl (aj u).2/\(td u).1.Perm (aj u).1/\cp u=tp (ak u):=by
 intro u
 induction u with
 | nil=>intro _;simp [td,Lv.tidy,Lv.kept,flat,Lv.tid,aj,tl,cp,Lv.prt,ak,tp]
 | snd a b p H=>
  intro h;have hk:(Lv.kept (flat p).1 (Lv.tid (flat p).2))=td p:=rfl;have e:td (.snd a b p)=([],.thr .s a b (td p).1 (td p).2 .nil):=by simp [td,Lv.tidy,flat,Lv.tid,Lv.kept]
  refine⟨by rw [e];rfl,by rw [e];exact Of _,?_⟩;rw [cp,ak,tp,e];rfl
 | rcv a x p H=>
  intro h;have e:td (.rcv a x p)=([],.thr .r a x (td p).1 (td p).2 .nil):=by simp [td,Lv.tidy,flat,Lv.tid,Lv.kept]
  refine⟨by rw [e];rfl,by rw [e];exact Of _,?_⟩;rw [cp,ak,tp,e];rfl
 | tau p H=>
  intro h;have e:td (.tau p)=([],.thr .t 0 0 (td p).1 (td p).2 .nil):=by simp [td,Lv.tidy,flat,Lv.tid,Lv.kept]
  refine⟨by rw [e];rfl,by rw [e];exact Of _,?_⟩;rw [cp,ak,tp,e];rfl
 | rep p H=>
  intro h;have e:td (.rep p)=if p.dead then([],.nil)else([],.thr .p 0 0 (td p).1 (td p).2 .nil):=by
   show Lv.kept [] _=_;rw [oG,de];split<;>simp [Lv.kept]
  unfold cp;rw [e,aj,ak];split
  ·exact⟨rfl,Of _,rfl⟩
  ·rename_i hd;rw [Nt hd]at e;refine⟨rfl,Of _,?_⟩;rw [tp,e];rfl
 | mat a b p H=>
  intro h;have e:td (.mat a b p)=if a=b then td p else if p.dead then([],.nil)else([],.thr .m a b (td p).1 (td p).2 .nil):=by
   show Lv.kept [] _=_;rw [oM,de];split
   ·exact pI _ _
   ·split<;>simp [Lv.kept]
  have H:=H h.mat;unfold cp;rw [e,aj,ak];split
  ·exact H
  ·rename_i ν;rw [Nt ν]at e;split
   ·exact⟨rfl,Of _,rfl⟩
   ·rename_i hd;rw [Nt hd]at e;refine⟨rfl,Of _,?_⟩;rw [tp,e];rfl
 | res x p H=>
  intro h;obtain⟨h1,h2,h3⟩:=H h.res;have J:(td (.res x p)).2=(td p).2:=rfl;have Z:(td (.res x p)).1=if(td p).2.has x then x::(td p).1 else(td p).1:=by
   rw [LU,J];simp only [flat,N6,List.filter_cons];rfl
  refine⟨by rw [J];exact h1,?_,?_⟩
  ·rw [Z,aj];split
   ·exact List.Perm.cons x h2
   ·exact h2
  ·rw [ak];split
   ·rename_i G;rw [NO G]at Z;unfold cp Lv.prt;rw [tp,tp];split
    ·rename_i e;rw [J]at e;rw [e]at G;cases G
    ·rename_i ps e;rw [Z];rw [Nt (by simp)]
    ·rw [Z]
   ·rename_i G;rw [Nt G]at Z;rw [<-h3,cp,cp,Z,J]
 | par p q H γ=>
  intro h;obtain⟨h1,h2,h3⟩:=H h.fK;obtain⟨k1,k2,k3⟩:=γ h.eV;have J:(td (.par p q)).2=(td p).2.app (td q).2:=by simp only [qD,flat,Lv.ct _ _ (bP p)]
  have Z:(td (.par p q)).1=(((flat p).1++(flat q).1)++((Lv.tid (flat p).2).1++(Lv.tid (flat q).2).1)).filter λx=>(td p).2.has x||(td q).2.has x:=by
   rw [LU,J];simp only [flat,Lv.ct _ _ (bP p)];exact List.filter_congr λx _=>Lv.cH x _ _
  have θ:=NU.1 h.nd;have ι:∀x,x∈BV p->(td q).2.has x=false:=λx G=>CC (λhq=>θ.2.2 x G x hq rfl) λhf=>h.nf x (NS _ G) (.inr hf)
  have κ:∀x,x∈BV q->(td p).2.has x=false:=λx G=>CC (λhq=>θ.2.2 x hq x G rfl) λhf=>h.nf x (NG _ G) (.inl hf)
  have μ:((flat p).1++(Lv.tid (flat p).2).1).filter (λx=>(td p).2.has x||(td q).2.has x)=(td p).1:=by
   rw [LU];refine List.filter_congr λx G=>?_
   rw [ι x ((Nk.1 G).elim ((vz p).1 x) ((vz p).2 x)),Pr]
  have δ:((flat q).1++(Lv.tid (flat q).2).1).filter (λx=>(td p).2.has x||(td q).2.has x)=(td q).1:=by
   rw [LU];refine List.filter_congr λx G=>?_
   rw [κ x ((Nk.1 G).elim ((vz q).1 x) ((vz q).2 x)),PV]
  refine⟨by rw [J,h1,k1,aj,gj],?_,?_⟩
  ·rw [Z,aj];refine((sf _ _ _ _).filter _).trans ?_;rw [OF,μ,δ];exact h2.append k2
  ·rw [ak];split
   ·rename_i hd;have ep:=lP hd;have ξ:(Lv.tid (flat p).2).1=[]:=by
     refine Pf.2 λx G=>?_
     have :=(Dm (flat p).2).2 x G;rw [<-qD,ep]at this;cases this
    have β:(flat p).1.filter (λx=>(td p).2.has x||(td q).2.has x)=[]:=filter_false λx G=>by
     rw [ep,ι x ((vz p).1 x G)];rfl
    rw [<-k3,cp,cp,Z,J,ep];rw [ξ,N2,NX,OF];rw [ep]at β δ;rw [β,N2,δ];rfl
   ·split
    ·rename_i hd;have ε:=lP hd;have ο:(Lv.tid (flat q).2).1=[]:=by
      refine Pf.2 λx G=>?_
      have :=(Dm (flat q).2).2 x G;rw [<-qD,ε]at this;cases this
     have β:(flat q).1.filter (λx=>(td p).2.has x||(td q).2.has x)=[]:=filter_false λx G=>by
      rw [ε,κ x ((vz q).1 x G)];rfl
     rw [<-h3,cp,cp,Z,J,ο,NM,OF,OF,β,NM,<-OF,μ,ε,Lv.aT]
    ·rename_i ζ η;have l1:=(j9 p).1 (by simpa using ζ);have l2:=(j9 q).1 (by simpa using η);have hl:2<=(td (.par p q)).2.len:=by rw [J,Lv.dT];omega
     unfold cp Lv.prt;rw [tp,tp];split
     ·rename_i e;rw [e]at hl;simp [Lv.len]at hl
     ·rename_i ps e;rw [e]at hl;simp [Lv.len]at hl
     ·rfl
 | sum p q H γ=>
  intro h;obtain⟨h1,h2,h3⟩:=H h.dF;obtain⟨k1,k2,k3⟩:=γ h.dh;have e:td (.sum p q)=if p.dead then td q else if q.dead then td p else([],.sum (tp (ak p++ak q)) .nil):=by
   show Lv.kept [] _=_;rw [nX];split
   ·rename_i hd;rw [gv ((bF p).2.1.2 hd)];show Lv.kept [] (Lv.spl (cp q) ([],.nil))=_;rw [Gb];exact pI _ _
   ·rename_i ζ;split
    ·rename_i hd;rw [gv ((bF q).2.1.2 hd),Lv.aT,Gb];exact pI _ _
    ·rename_i η;have l1:(cp p).len≠0:=λe=>ζ ((bF p).2.1.1 e)
     have l2:(cp q).len≠0:=λe=>η ((bF q).2.1.1 e)
     rw [h3,k3,<-se]at*;have:2<=(tp (ak p++ak q)).len:=by rw [se,Lv.dT];omega
     unfold Lv.spl;split
     ·rename_i e;rw [e]at this;simp [Lv.len]at this
     ·rename_i e;rw [e]at this;simp [Lv.len]at this
     ·simp [Lv.kept]
  unfold cp;rw [e,aj,ak];split
  ·rename_i hd;have:ak p=[]:=EG (by rw [<-h3];exact(bF p).2.1.2 hd);rw [this,N2];exact⟨k1,k2,k3⟩
  ·split
   ·rename_i hd;have:ak q=[]:=EG (by rw [<-k3];exact(bF q).2.1.2 hd);rw [this,NM];exact⟨h1,h2,h3⟩
   ·exact⟨rfl,Of _,by simp [Lv.prt,Lv.aT]⟩
abbrev Tx:=List UInt8
def T.text:T UInt8->Tx
 | .nil=>[48]
 | .snd a b p=>a::33::b::46::p.text
 | .rcv a x p=>a::63::x::46::p.text
 | .tau p=>126::46::p.text
 | .sum p q=>40::(p.text++(43::(q.text++[41])))
 | .par p q=>40::(p.text++(38::(q.text++[41])))
 | .res x p=>35::x::46::p.text
 | .mat a b p=>91::a::61::b::93::p.text
 | .rep p=>42::p.text
def iS (s t:Tx):Bool:=decide (s<=t)
def fU (a b c:Tx)(h:iS a b=true)(k:iS b c=true):iS a c=true:=by
 simp only [iS,Nj]at*;exact List.le_trans h k
def pR (a b:Tx):(iS a b||iS b a)=true:=by
 simp only [iS,OK,Nj];exact List.le_total a b
def Ao (a b:Tx)(h:iS a b=true)(k:iS b a=true):a=b:=by
 simp only [iS,Nj]at*;exact List.le_antisymm h k
def bf (l:List Tx):List Tx:=l.mergeSort iS
def aS (l:List Tx):(bf l).Perm l:=List.mergeSort_perm l iS
def jo (l:List Tx):(bf l).Pairwise (λa b=>iS a b=true):=List.pairwise_mergeSort fU pR l
def sX {l m:List Tx}(hm:m.Pairwise (λa b=>iS a b=true))(G:m.Perm l):bf l=m:=
 List.Perm.eq_of_pairwise (λa b _ _=>Ao a b) (jo l) hm ((aS l).trans G.symm)
def lf {l m:List Tx}(h:l.Perm m):bf l=bf m:=sX (jo m) ((aS m).trans h.symm)
def joinS (sign:UInt8):List Tx->Tx
 | []=>[]
 | [s]=>s
 | s::l=>40::(s++(sign::(joinS sign l++[41])))
def bE (l:List Tx):Tx:=(bf l).headD []
def cf {l:List Tx}(h:l≠[]):bE l∈l/\∀s∈l,iS (bE l) s=true:=by
 have G:=aS l;have H:=jo l;unfold bE;cases e:bf l with
 | nil=>rw [e]at G;exact absurd G.symm.eq_nil h
 | cons a r=>
  rw [e]at G H;refine⟨G.subset (NP ..),λs hm=>?_⟩;have :=G.symm.subset hm;rcases Nw.1 this with rfl | hr
  ·simp [iS]
  ·exact(OU.1 H).1 s hr
def fZ {l:List Tx}{r:Tx}(h:r∈l)(H:∀s∈l,iS r s=true):bE l=r:=by
 have G:l≠[]:=λe=>by rw [e]at h;cases h
 obtain⟨h1,J⟩:=cf G;exact Ao _ _ (J r h) (H _ h1)
def nK {l m:List Tx}(h:∀s,s∈l↔s∈m):bE l=bE m:=by
 by_cases H:l=[]
 ·subst H;have:m=[]:=Pf.2 λs G=>by have :=(h s).2 G;cases this
  rw [this]
 ·have hm:m≠[]:=λe=>H (Pf.2 λs G=>by have :=(h s).1 G;rw [e]at this;cases this)
  obtain⟨h1,J⟩:=cf hm;exact fZ ((h _).2 h1) λs G=>J s ((h s).1 G)
def HN (h:Tx)(s t:Tx):iS (h++s) (h++t)=iS s t:=by
 unfold iS
 congr 1
 induction h with
 | nil=>rfl
 | cons a h G=>simp only [N6,List.cons_le_cons_iff,UInt8.lt_irrefl,PE,Qw,G]
def tV (h:Tx){l:List Tx}(G:l≠[]):bE (l.map (h++·))=h++bE l:=by
 obtain⟨h1,H⟩:=cf G;refine fZ (OO h1) λs J=>?_
 obtain⟨t,Z,rfl⟩:=NT.1 J;rw [HN];exact H t Z
def ins {α:Type}(x:α):List α->List (List α)
 | []=>[[x]]
 | y::l=>(x::y::l)::(ins x l).map (y::·)
def perms {α:Type}:List α->List (List α)
 | []=>[[]]
 | x::l=>(perms l).flatMap (ins x)
def rq {α:Type}(x:α):∀(l m:List α),m∈ins x l↔∃s t,l=s++t/\m=s++x::t
 | [],m=>by
  simp only [ins,ND];constructor
  ·rintro rfl;exact⟨[],[],rfl,rfl⟩
  ·rintro⟨s,t,e,rfl⟩
   obtain⟨rfl,rfl⟩:=List.append_eq_nil_iff.1 e.symm;rfl
 | y::l,m=>by
  simp only [ins,Nw,NT];constructor
  ·rintro(rfl | ⟨m',hm,rfl⟩)
   ·exact⟨[],y::l,rfl,rfl⟩
   ·obtain⟨s,t,rfl,rfl⟩:=(rq x l m').1 hm;exact⟨y::s,t,rfl,rfl⟩
  ·rintro⟨s,t,e,rfl⟩
   cases s with
   | nil=>simp only [N2]at e;subst e;exact .inl rfl
   | cons z s=>
    simp only [N6,OC]at e;obtain⟨rfl,rfl⟩:=e;exact .inr ⟨s++x::t,(rq x _ _).2 ⟨s,t,rfl,rfl⟩,rfl⟩
def cF {α:Type}:∀(l m:List α),m∈perms l↔m.Perm l
 | [],m=>by simp [perms]
 | x::l,m=>by
  simp only [perms,Oo];constructor
  ·rintro⟨m',h1,G⟩
   obtain⟨s,t,rfl,rfl⟩:=(rq x m' m).1 G;exact PN.trans (List.Perm.cons x ((cF l _).1 h1))
  ·intro h;obtain⟨s,t,rfl⟩:=List.append_of_mem (h.symm.subset (NP ..));exact⟨s++t,(cF l _).2 ((List.perm_cons x).1 (PN.symm.trans h)),(rq x _ _).2 ⟨s,t,rfl,rfl⟩⟩
def oC {α:Type}(l:List α):perms l≠[]:=λe=>by
 have :=(cF l l).2 (Of l);rw [e]at this;cases this
def DA:List UInt8:=(List.range 26).map λi=>UInt8.ofNat (97+i)
abbrev Tk:=UInt8->Bool
def uH (tk:Tk):Option UInt8:=DA.find? λc=> !tk c
def ic (tk:Tk):UInt8:=(uH tk).getD 122
def cA (tk:Tk)(c:UInt8):Tk:=λd=>tk d||d==c
def lets:Nat->Tk->List UInt8
 | 0,_=>[]
 | n+1,tk=>ic tk::lets n (cA tk (ic tk))
def addK:List UInt8->Tk->Tk
 | [],tk=>tk
 | c::l,tk=>addK l (cA tk c)
def fR:Nat->Tk->Bool
 | 0,_=>false
 | n+1,tk=>(uH tk).isNone||fR n (cA tk (ic tk))
abbrev Rh:=Nat->UInt8
def asg:List Nat->List UInt8->Rh->Rh
 | x::π,c::l,ρ=>asg π l (aF ρ x c)
 | _,_,ρ=>ρ
def wrap:List UInt8->Tx->Tx
 | [],s=>s
 | c::l,s=>35::c::46::wrap l s
def z8 (l:List UInt8)(s:Tx):wrap l s=wrap l []++s:=by
 induction l with
 | nil=>rfl
 | cons c l G=>rw [wrap,G,wrap];rfl
def fq:∀(n:Nat) (tk:Tk),(lets n tk).length=n
 | 0,_=>rfl
 | n+1,tk=>by rw [lets,M0,fq]
def aP (own:List Nat)(f:Rh->Tk->List Tx)(ρ:Rh)(tk:Tk):Tx:=
 if(f ρ tk).isEmpty then [48]else
 let ls:=lets own.length tk
 wrap ls (bE ((perms own).map λπ=>joinS 38 (bf (f (asg π ls ρ) (addK ls tk)))))
def kText (k:K)(a b:UInt8)(rest:Tx):Tx:=match k with
 | .s=>a::33::b::46::rest
 | .r=>a::63::b::46::rest
 | .t=>126::46::rest
 | .m=>91::(if b< a then b else a)::61::(if b< a then a else b)::93::rest
 | .p=>42::rest
def thS:Lv->Rh->Tk->List Tx
 | .nil,_,_=>[]
 | .thr k a b o r n,ρ,tk=>(match k with
   | .r=>kText .r (ρ a) (ic tk) (aP o (thS r) (aF ρ b (ic tk)) (cA tk (ic tk)))
   | k=>kText k (ρ a) (ρ b) (aP o (thS r) ρ tk))::thS n ρ tk
 | .sum ps n,ρ,tk=>joinS 43 (bf (thS ps ρ tk))::thS n ρ tk
 | .part o q n,ρ,tk=>aP o (thS q) ρ tk::thS n ρ tk
def fu (n:Nat)(nl:Bool)(f:Tk->Bool)(tk:Tk):Bool:= !nl&&(fR n tk||f (addK (lets n tk) tk))
def thBad:Lv->Tk->Bool
 | .nil,_=>false
 | .thr k _ _ o r n,tk=>(match k with
   | .r=>(uH tk).isNone||fu o.length r.isNil (thBad r) (cA tk (ic tk))
   | _=>fu o.length r.isNil (thBad r) tk)||thBad n tk
 | .sum ps n,tk=>thBad ps tk||thBad n tk
 | .part o q n,tk=>fu o.length q.isNil (thBad q) tk||thBad n tk
def thAll:Lv->Nat
 | .nil=>0
 | .thr _ _ _ o r n=>o.length+thAll r+thAll n
 | .sum ps n=>thAll ps+thAll n
 | .part o q n=>o.length+thAll q+thAll n
def an:Lv->Nat
 | .nil=>0
 | .thr _ _ _ o r n=>max (max o.length (an r)) (an n)
 | .sum ps n=>max (an ps) (an n)
 | .part o q n=>max (max o.length (an q)) (an n)
def bj:∀(l:Lv) (ρ:Rh) (tk:Tk),(thS l ρ tk).length=l.len
 | .nil,_,_=>rfl
 | .thr k a b o r n,ρ,tk=>by simp only [thS,M0,bj n,Lv.len]
 | .sum ps n,ρ,tk=>by rw [thS,M0,bj n,Lv.len]
 | .part o q n,ρ,tk=>by rw [thS,M0,bj n,Lv.len]
def fO:∀(l m:Lv) (ρ:Rh) (tk:Tk),thS (l.app m) ρ tk=thS l ρ tk++thS m ρ tk
 | .nil,_,_,_=>rfl
 | .thr k a b o r n,m,ρ,tk=>by simp only [Lv.app,thS,fO n m,N6]
 | .sum ps n,m,ρ,tk=>by simp only [Lv.app,thS,fO n m,N6]
 | .part o q n,m,ρ,tk=>by simp only [Lv.app,thS,fO n m,N6]
def cE:∀(l m:Lv) (tk:Tk),thBad (l.app m) tk=(thBad l tk||thBad m tk)
 | .nil,_,_=>by simp [Lv.app,thBad]
 | .thr k a b o r n,m,tk=>by simp only [Lv.app,thBad,cE n m,OL]
 | .sum ps n,m,tk=>by simp only [Lv.app,thBad,cE n m,OL]
 | .part o q n,m,tk=>by simp only [Lv.app,thBad,cE n m,OL]
def bN:∀(l m:Lv),thAll (l.app m)=thAll l+thAll m
 | .nil,_=>by simp [Lv.app,thAll]
 | .thr k a b o r n,m=>by simp only [Lv.app,thAll,bN n m];omega
 | .sum ps n,m=>by simp only [Lv.app,thAll,bN n m];omega
 | .part o q n,m=>by simp only [Lv.app,thAll,bN n m];omega
def bQ:∀(l m:Lv),an (l.app m)=max (an l) (an m)
 | .nil,_=>by simp [Lv.app,an]
 | .thr k a b o r n,m=>by simp only [Lv.app,an,bQ n m];omega
 | .sum ps n,m=>by simp only [Lv.app,an,bQ n m];omega
 | .part o q n,m=>by simp only [Lv.app,an,bQ n m];omega
def jW {own G:List Nat}{f g:Rh->Tk->List Tx}(h:own.Perm G)(J:∀ρ tk,(f ρ tk).Perm (g ρ tk))(ρ:Rh)(tk:Tk):aP own f ρ tk=aP G g ρ tk:=by
 unfold aP;have e:(f ρ tk).isEmpty=(g ρ tk).isEmpty:=by
  rw [N',Qa,Qa];exact⟨λe=>by have :=J ρ tk;rw [e]at this;exact this.symm.eq_nil,λe=>by have :=J ρ tk;rw [e]at this;exact this.eq_nil⟩
 rw [e,h.length_eq];split
 ·rfl
 ·show wrap _ (bE _)=wrap _ (bE _)
  congr 1
  refine nK λs=>?_
  simp only [NT,cF];constructor
  ·rintro⟨π,H,rfl⟩
   exact⟨π,H.trans h,by rw [lf (J _ _)]⟩
  ·rintro⟨π,H,rfl⟩
   exact⟨π,H.trans h.symm,by rw [lf (J _ _)]⟩
def LS (u:U):Rh->Tk->Tx:=aP (td u).1 (thS (td u).2)
def cN (u:U):Tk->Bool:=fu (td u).1.length (td u).2.isNil (thBad (td u).2)
def ck (u:U):Nat:=(td u).1.length+thAll (td u).2
def aY (u:U):Nat:=max (td u).1.length (an (td u).2)
def I8:U->Bool
 | .snd .. =>true | .rcv .. =>true | .tau .. =>true | .mat .. =>true | .rep .. =>true | .sum .. =>true | _=>false
def wP:∀(u:U),∀t∈(aj u).2,I8 t=true:=by
 intro u
 induction u with
 | nil=>intro t h;simp [aj]at h
 | snd a b p G=>intro t h;simp [aj]at h;subst h;rfl
 | rcv a b p G=>intro t h;simp [aj]at h;subst h;rfl
 | tau p G=>intro t h;simp [aj]at h;subst h;rfl
 | sum p q G H=>
  intro t h;simp only [aj]at h;split at h
  ·exact H t h
  ·split at h
   ·exact G t h
   ·simp at h;subst h;rfl
 | par p q G H=>intro t h;simp only [aj,Nk]at h;exact h.elim (G t) (H t)
 | res x p G=>exact G
 | mat a b p G=>
  intro t h;simp only [aj]at h;split at h
  ·exact G t h
  ·split at h
   ·simp at h
   ·simp at h;subst h;rfl
 | rep p G=>
  intro t h;simp only [aj]at h;split at h
  ·simp at h
  ·simp at h;subst h;rfl
def thU:U->Rh->Tk->Tx
 | .snd a b p,ρ,tk=>kText .s (ρ a) (ρ b) (LS p ρ tk)
 | .rcv a x p,ρ,tk=>kText .r (ρ a) (ic tk) (LS p (aF ρ x (ic tk)) (cA tk (ic tk)))
 | .tau p,ρ,tk=>kText .t 0 0 (LS p ρ tk)
 | .mat a b p,ρ,tk=>kText .m (ρ a) (ρ b) (LS p ρ tk)
 | .rep p,ρ,tk=>kText .p 0 0 (LS p ρ tk)
 | .sum p q,ρ,tk=>joinS 43 (bf ((ak p++ak q).map λu=>LS u ρ tk))
 | _,_,_=>[]
def Fc:∀(l:List U) (ρ:Rh) (tk:Tk),thS (tp l) ρ tk=l.map λu=>LS u ρ tk
 | [],_,_=>rfl
 | u::l,ρ,tk=>by rw [tp,thS,Fc l];rfl
def GP:∀(l:List U),(∀t∈l,I8 t=true)->∀(ρ:Rh) (tk:Tk),thS (tl l) ρ tk=l.map λu=>thU u ρ tk
 | [],_,_,_=>rfl
 | u::l,h,ρ,tk=>by
  have G:=GP l (λt H=>h t (Nh _ H)) ρ tk;have hu:=h u (NP ..);cases u<;>first | (cases hu;done) | (simp only [tl,thS,G,NI,Fc];rfl)
def wY {u:U}(h:Uq u)(ρ:Rh)(tk:Tk):LS u ρ tk=aP (aj u).1 (λρ tk=>(aj u).2.map λt=>thU t ρ tk) ρ tk:=by
 obtain⟨h1,G,_⟩:=fF u h;refine jW G (λρ tk=>?_) ρ tk;rw [h1,GP _ (wP u)]
def nm (c:UInt8):Bool:=(97<=c&&c<=122)||(65<=c&&c<=90)||128<=c
def endI (l:Tx):Nat->Int->Int
 | 0,_=> -1
 | n+1,i=>
  if(l.length:Int)<=i then -1 else
  if bt l i.toNat=48 then i+1 else
  if bt l i.toNat=42 then endI l n (i+1)else
  if bt l i.toNat=126 then(if i+1< l.length/\bt l (i+1).toNat=46 then endI l n (i+2)else -1)else
  if bt l i.toNat=35 then(if i+2< l.length/\nm (bt l (i+1).toNat)=true/\bt l (i+2).toNat=46 then endI l n (i+3)else -1)else
  if bt l i.toNat=91 then(if i+4< l.length/\nm (bt l (i+1).toNat)=true/\bt l (i+2).toNat=61/\nm (bt l (i+3).toNat)=true/\bt l (i+4).toNat=93 then endI l n (i+5)else -1)else
  if bt l i.toNat=40 then
   (if endI l n (i+1)< 0\/(l.length:Int)<=endI l n (i+1)\/(bt l (endI l n (i+1)).toNat≠43/\bt l (endI l n (i+1)).toNat≠38)then -1 else
    if 0<=endI l n (endI l n (i+1)+1)/\endI l n (endI l n (i+1)+1)< l.length/\bt l (endI l n (endI l n (i+1)+1)).toNat=41 then endI l n (endI l n (i+1)+1)+1 else -1)else
  if nm (bt l i.toNat)=true then(if i+3< l.length/\(bt l (i+1).toNat=33\/bt l (i+1).toNat=63)/\nm (bt l (i+2).toNat)=true/\bt l (i+3).toNat=46 then endI l n (i+4)else -1)else -1
def CK (l:Tx):∀n i,0<=i->endI l n i= -1\/i< endI l n i/\endI l n i<=l.length:=by
 intro n;induction n with
 | zero=>intro i _;exact .inl rfl
 | succ n G=>
  intro i hi;have h1:=G (i+1) (by omega);have H:=G (i+2) (by omega);have J:=G (i+3) (by omega);have h4:=G (i+4) (by omega);have h5:=G (i+5) (by omega);have Z:=G (endI l n (i+1)+1);unfold endI
  repeat' split
  all_goals omega
def lt (c:UInt8):Bool:=97<=c&&c<=122
abbrev P:=T UInt8
def T.wf:P->Bool
 | .nil=>true | .snd a b p=>nm a&&nm b&&p.wf | .rcv a b p=>nm a&&nm b&&p.wf | .tau p=>p.wf | .sum p q=>p.wf&&q.wf
 | .par p q=>p.wf&&q.wf | .res x p=>nm x&&p.wf | .mat a b p=>nm a&&nm b&&p.wf | .rep p=>p.wf
def T.kind:P->UInt8
 | .nil=>48 | .snd .. =>33 | .rcv .. =>63 | .tau _=>126 | .sum .. =>43 | .par .. =>38 | .res .. =>35 | .mat .. =>61 | .rep _=>42
def T.parts:P->List P
 | .nil=>[] | .snd _ _ p=>[p] | .rcv _ _ p=>[p] | .tau p=>[p] | .sum p q=>[p,q] | .par p q=>[p,q] | .res _ p=>[p] | .mat _ _ p=>[p] | .rep p=>[p]
def Gm (t:P):0< t.text.length:=by cases t<;>simp [T.text]
def bc:∀t:P,t.size<=t.text.length
 | .nil=>by simp [T.size,T.text]
 | .snd a b p=>by have :=bc p;simp only [T.size,T.text,M0];omega
 | .rcv a b p=>by have :=bc p;simp only [T.size,T.text,M0];omega
 | .tau p=>by have :=bc p;simp only [T.size,T.text,M0];omega
 | .res a p=>by have :=bc p;simp only [T.size,T.text,M0];omega
 | .mat a b p=>by have :=bc p;simp only [T.size,T.text,M0];omega
 | .rep p=>by have :=bc p;simp only [T.size,T.text,M0];omega
 | .sum p q=>by have :=bc p;have :=bc q;simp only [T.size,T.text,M0,Nb,Np];omega
 | .par p q=>by have :=bc p;have :=bc q;simp only [T.size,T.text,M0,Nb,Np];omega
def drop_cons {l:Tx}{i:Nat}{c:UInt8}{r:Tx}(h:l.drop i=c::r):i< l.length/\bt l i=c/\l.drop (i+1)=r:=by
 have hi:i< l.length:=by
  rcases ON i l.length with G | G
  ·exact G
  ·rw [OT G]at h;cases h
 have e:=N4 hi;rw [h]at e;simp only [OC]at e;refine⟨hi,?_,e.2.symm⟩;rw [e.1];simp [bt,hi]
def bC {l:Tx}{i:Nat}(h:i< l.length):l.drop i=bt l i::l.drop (i+1):=by
 rw [N4 h];simp [bt,h]
def tj {c:UInt8}(h:nm c=true):c≠48/\c≠42/\c≠126/\c≠35/\c≠91/\c≠40:=by
 refine⟨?_,?_,?_,?_,?_,?_⟩<;>rintro rfl<;>revert h<;>decide
def vi {l:Tx}:∀(t:P) (n i:Nat) (r:Tx),t.wf=true->t.size<=n->l.drop i=t.text++r->endI l n i=((i+t.text.length:Nat):Int):=by
 intro t
 induction t with
 | nil=>
  intro n i r hw H h;obtain⟨n,rfl⟩:∃m,n=m+1:=⟨n - 1,by simp only [T.size]at H;omega⟩
  obtain⟨h1,G,_⟩:=drop_cons h;unfold endI;rw [Nt (by omega),Nf,NO G];simp [T.text]
 | rep p Z=>
  intro n i r hw H h;simp only [T.size]at H;obtain⟨n,rfl⟩:∃m,n=m+1:=⟨n - 1,by omega⟩
  obtain⟨h1,G,J⟩:=drop_cons h;unfold endI;rw [Nt (by omega),Nf,Nt (by rw [G];decide),NO G];have :=Z n (i+1) r hw (by omega) J;rw [Int.natCast_add]at this;simp only [Int.natCast_one]at this;rw [this];simp only [T.text,M0];omega
 | tau p Z=>
  intro n i r hw H h;simp only [T.size]at H;obtain⟨n,rfl⟩:∃m,n=m+1:=⟨n - 1,by omega⟩
  obtain⟨h1,G,J⟩:=drop_cons h;obtain⟨k1,k2,k3⟩:=drop_cons J;have e1:((i:Int)+1).toNat=i+1:=by omega
  have :=Z n (i+2) r hw (by omega) k3;have e2:(i:Int)+2=((i+2:Nat):Int):=by omega
  unfold endI;rw [Nt (by omega),Nf,e1,e2,G,k2,this];rw [Nt (by decide),Nt (by decide),NO rfl,NO ⟨by omega,rfl⟩];simp only [T.text,M0];omega
 | res x p Z=>
  intro n i r hw H h;simp only [T.size]at H;simp only [T.wf,M8]at hw;obtain⟨n,rfl⟩:∃m,n=m+1:=⟨n - 1,by omega⟩
  obtain⟨h1,G,J⟩:=drop_cons h;obtain⟨k1,k2,k3⟩:=drop_cons J;obtain⟨m1,m2,m3⟩:=drop_cons k3;have e1:((i:Int)+1).toNat=i+1:=by omega
  have β:((i:Int)+2).toNat=i+1+1:=by omega
  have :=Z n (i+3) r hw.2 (by omega) m3;have e2:(i:Int)+3=((i+3:Nat):Int):=by omega
  unfold endI;rw [Nt (by omega),Nf,e1,β,e2,G,k2,m2,this];rw [Nt (by decide),Nt (by decide),Nt (by decide),NO rfl,NO ⟨by omega,hw.1,rfl⟩];simp only [T.text,M0];omega
 | mat a b p Z=>
  intro n i r hw H h;simp only [T.size]at H;simp only [T.wf,M8]at hw;obtain⟨n,rfl⟩:∃m,n=m+1:=⟨n - 1,by omega⟩
  obtain⟨h1,G,J⟩:=drop_cons h;obtain⟨k1,k2,k3⟩:=drop_cons J;obtain⟨m1,m2,m3⟩:=drop_cons k3;obtain⟨o1,o2,o3⟩:=drop_cons m3;obtain⟨q1,q2,q3⟩:=drop_cons o3;have e1:((i:Int)+1).toNat=i+1:=by omega
  have β:((i:Int)+2).toNat=i+1+1:=by omega
  have e3:((i:Int)+3).toNat=i+1+1+1:=by omega
  have e4:((i:Int)+4).toNat=i+1+1+1+1:=by omega
  have :=Z n (i+5) r hw.2 (by omega) q3;have e2:(i:Int)+5=((i+5:Nat):Int):=by omega
  unfold endI;rw [Nt (by omega),Nf,e1,β,e2,e3,e4,G,k2,m2,o2,q2,this];rw [Nt (by decide),Nt (by decide),Nt (by decide),Nt (by decide),NO rfl,NO ⟨by omega,hw.1.1,rfl,hw.1.2,rfl⟩];simp only [T.text,M0];omega
 | snd a b p Z=>
  intro n i r hw H h;simp only [T.size]at H;simp only [T.wf,M8]at hw;obtain⟨n,rfl⟩:∃m,n=m+1:=⟨n - 1,by omega⟩
  obtain⟨h1,G,J⟩:=drop_cons h;obtain⟨k1,k2,k3⟩:=drop_cons J;obtain⟨m1,m2,m3⟩:=drop_cons k3;obtain⟨o1,o2,o3⟩:=drop_cons m3;have e1:((i:Int)+1).toNat=i+1:=by omega
  have β:((i:Int)+2).toNat=i+1+1:=by omega
  have e3:((i:Int)+3).toNat=i+1+1+1:=by omega
  have :=Z n (i+4) r hw.2 (by omega) o3;have e2:(i:Int)+4=((i+4:Nat):Int):=by omega
  obtain⟨n1,n2,n3,n4,n5,n6⟩:=tj hw.1.1;unfold endI;rw [Nt (by omega),Nf,e1,β,e2,e3,G,k2,m2,o2,this];rw [Nt n1,Nt n2,Nt n3,Nt n4,Nt n5,Nt n6,NO hw.1.1,NO ⟨by omega,.inl rfl,hw.1.2,rfl⟩];simp only [T.text,M0];omega
 | rcv a b p Z=>
  intro n i r hw H h;simp only [T.size]at H;simp only [T.wf,M8]at hw;obtain⟨n,rfl⟩:∃m,n=m+1:=⟨n - 1,by omega⟩
  obtain⟨h1,G,J⟩:=drop_cons h;obtain⟨k1,k2,k3⟩:=drop_cons J;obtain⟨m1,m2,m3⟩:=drop_cons k3;obtain⟨o1,o2,o3⟩:=drop_cons m3;have e1:((i:Int)+1).toNat=i+1:=by omega
  have β:((i:Int)+2).toNat=i+1+1:=by omega
  have e3:((i:Int)+3).toNat=i+1+1+1:=by omega
  have :=Z n (i+4) r hw.2 (by omega) o3;have e2:(i:Int)+4=((i+4:Nat):Int):=by omega
  obtain⟨n1,n2,n3,n4,n5,n6⟩:=tj hw.1.1;unfold endI;rw [Nt (by omega),Nf,e1,β,e2,e3,G,k2,m2,o2,this];rw [Nt n1,Nt n2,Nt n3,Nt n4,Nt n5,Nt n6,NO hw.1.1,NO ⟨by omega,.inr rfl,hw.1.2,rfl⟩];simp only [T.text,M0];omega
 | sum p q Z γ=>
  intro n i r hw H h;simp only [T.size]at H;simp only [T.wf,M8]at hw;obtain⟨n,rfl⟩:∃m,n=m+1:=⟨n - 1,by omega⟩
  have h:l.drop i=40::(p.text++43::(q.text++41::r)):=by rw [h];simp [T.text]
  obtain⟨h1,G,J⟩:=drop_cons h;have e:=Z n (i+1) _ hw.1 (by omega) J;have h4:l.drop (i+1+p.text.length)=43::(q.text++41::r):=by
   rw [<-P5,J,P7]
  obtain⟨k1,k2,k3⟩:=drop_cons h4;have e':=γ n (i+1+p.text.length+1) _ hw.2 (by omega) k3;have h5:l.drop (i+1+p.text.length+1+q.text.length)=41::r:=by
   rw [<-P5,k3,P7]
  obtain⟨m1,m2,m3⟩:=drop_cons h5;have c1:(i:Int)+1=((i+1:Nat):Int):=by omega
  have c2:((i+1+p.text.length:Nat):Int)+1=((i+1+p.text.length+1:Nat):Int):=by omega
  unfold endI;rw [Nt (by omega)];simp only [Nf,G,c1,e,c2,e',k2,m2];rw [Nt (by decide),Nt (by decide),Nt (by decide),Nt (by decide),Nt (by decide),NO trivial,Nt,NO ⟨by omega,by omega,trivial⟩]
  ·simp only [T.text,M0,Nb,Np];omega
  ·rintro(hh | hh | hh)
   ·omega
   ·omega
   ·exact hh.1 rfl
 | par p q Z γ=>
  intro n i r hw H h;simp only [T.size]at H;simp only [T.wf,M8]at hw;obtain⟨n,rfl⟩:∃m,n=m+1:=⟨n - 1,by omega⟩
  have h:l.drop i=40::(p.text++38::(q.text++41::r)):=by rw [h];simp [T.text]
  obtain⟨h1,G,J⟩:=drop_cons h;have e:=Z n (i+1) _ hw.1 (by omega) J;have h4:l.drop (i+1+p.text.length)=38::(q.text++41::r):=by
   rw [<-P5,J,P7]
  obtain⟨k1,k2,k3⟩:=drop_cons h4;have e':=γ n (i+1+p.text.length+1) _ hw.2 (by omega) k3;have h5:l.drop (i+1+p.text.length+1+q.text.length)=41::r:=by
   rw [<-P5,k3,P7]
  obtain⟨m1,m2,m3⟩:=drop_cons h5;have c1:(i:Int)+1=((i+1:Nat):Int):=by omega
  have c2:((i+1+p.text.length:Nat):Int)+1=((i+1+p.text.length+1:Nat):Int):=by omega
  unfold endI;rw [Nt (by omega)];simp only [Nf,G,c1,e,c2,e',k2,m2];rw [Nt (by decide),Nt (by decide),Nt (by decide),Nt (by decide),Nt (by decide),NO trivial,Nt,NO ⟨by omega,by omega,trivial⟩]
  ·simp only [T.text,M0,Nb,Np];omega
  ·rintro(hh | hh | hh)
   ·omega
   ·omega
   ·exact hh.2 rfl
def B7 {l:Tx}:∀(n i:Nat),0<=endI l n i->∃t:P,t.wf=true/\l.drop i=t.text++l.drop (endI l n i).toNat:=by
 intro n
 induction n with
 | zero=>intro i h;simp [endI]at h
 | succ n ih=>
  intro i h;have ν:∀i:Nat,0<=endI l n i->∃t:P,t.wf=true/\l.drop i=t.text++l.drop (endI l n i).toNat:=ih;have c1:(i:Int)+1=((i+1:Nat):Int):=by omega
  have c2:(i:Int)+2=((i+2:Nat):Int):=by omega
  have c3:(i:Int)+3=((i+3:Nat):Int):=by omega
  have c4:(i:Int)+4=((i+4:Nat):Int):=by omega
  have c5:(i:Int)+5=((i+5:Nat):Int):=by omega
  unfold endI at h|-;simp only [c1,c2,c3,c4,c5,Nf]at h|-;split at h
  ·omega
  rename_i hi;have hl:i< l.length:=by omega
  rw [Nt hi];rw [bC hl];split at h
  ·rename_i G;rw [NO G];exact⟨.nil,rfl,by rw [G];rfl⟩
  rename_i γ;rw [Nt γ];split at h
  ·rename_i G;obtain⟨t,hw,J⟩:=ih _ h;rw [NO G];exact⟨.rep t,hw,by rw [G,J];rfl⟩
  rename_i δ;rw [Nt δ];split at h
  ·rename_i G;rw [NO G];split at h
   ·rename_i H;obtain⟨t,hw,J⟩:=ih _ h;rw [NO H];have h1:i+1< l.length:=by omega
    exact⟨.tau t,hw,by rw [G,bC h1,H.2,J];rfl⟩
   ·omega
  rename_i ε;rw [Nt ε];split at h
  ·rename_i G;rw [NO G];split at h
   ·rename_i H;obtain⟨t,hw,J⟩:=ih _ h;rw [NO H];have h1:i+1< l.length:=by omega
    have Z:i+1+1< l.length:=by omega
    exact⟨.res (bt l (i+1)) t,by simp [T.wf,hw,H.2.1],by rw [G,bC h1,bC Z,H.2.2,J];rfl⟩
   ·omega
  rename_i ζ;rw [Nt ζ];split at h
  ·rename_i G;rw [NO G];split at h
   ·rename_i H;obtain⟨t,hw,J⟩:=ih _ h;rw [NO H];have h1:i+1< l.length:=by omega
    have Z:i+1+1< l.length:=by omega
    have h3:i+1+1+1< l.length:=by omega
    have h4:i+1+1+1+1< l.length:=by omega
    exact⟨.mat (bt l (i+1)) (bt l (i+3)) t,by simp [T.wf,hw,H.2.1,H.2.2.2.1],by
     rw [G,bC h1,bC Z,bC h3,bC h4,H.2.2.1,H.2.2.2.2,J];rfl⟩
   ·omega
  rename_i η;rw [Nt η];split at h
  ·rename_i G;rw [NO G];split at h
   ·omega
   ·rename_i hm;rw [Nt hm];have θ:0<=endI l n ((i+1:Nat):Int):=by omega
    obtain⟨t,hw,J⟩:=ih _ θ;generalize hM:(endI l n ((i+1:Nat):Int)).toNat=m at*;have ι:endI l n ((i+1:Nat):Int)=(m:Int):=by omega
    simp only [ι]at h hm|-;have cm:(m:Int)+1=((m+1:Nat):Int):=by omega
    simp only [cm]at h|-;split at h
    ·rename_i he;rw [NO he];obtain⟨u,β,hu⟩:=ih _ he.1;have h1:m< l.length:=by omega
     generalize hE:(endI l n ((m+1:Nat):Int)).toNat=e at*;have κ:endI l n ((m+1:Nat):Int)=(e:Int):=by omega
     simp only [κ]at he|-;have Z:e< l.length:=by omega
     have ce:(((e:Int)+1).toNat)=e+1:=by omega
     rw [ce];have hb:bt l m=43\/bt l m=38:=by
      by_cases hx:bt l m=43
      ·exact .inl hx
      ·by_cases hy:bt l m=38
       ·exact .inr hy
       ·exact absurd (.inr (.inr ⟨hx,hy⟩)) hm
     rcases hb with hb | hb
     ·exact⟨.sum t u,by simp [T.wf,hw,β],by rw [G,J,bC h1,hb,hu,bC Z,he.2.2];simp [T.text]⟩
     ·exact⟨.par t u,by simp [T.wf,hw,β],by rw [G,J,bC h1,hb,hu,bC Z,he.2.2];simp [T.text]⟩
    ·omega
  rename_i μ;rw [Nt μ];split at h
  ·rename_i G;rw [NO G];split at h
   ·rename_i H;obtain⟨t,hw,J⟩:=ih _ h;rw [NO H];have h1:i+1< l.length:=by omega
    have Z:i+1+1< l.length:=by omega
    have h3:i+1+1+1< l.length:=by omega
    rcases H.2.1 with hb | hb
    ·exact⟨.snd (bt l i) (bt l (i+2)) t,by simp [T.wf,hw,H.2.2.1,G],by rw [bC h1,bC Z,bC h3,hb,H.2.2.2,J];rfl⟩
    ·exact⟨.rcv (bt l i) (bt l (i+2)) t,by simp [T.wf,hw,H.2.2.1,G],by rw [bC h1,bC Z,bC h3,hb,H.2.2.2,J];rfl⟩
   ·omega
  ·omega
def kj:∀{t u:P} {r r':Tx},t.wf=true->u.wf=true->t.text++r=u.text++r'->t=u/\r=r':=by
 intro t
 induction t<;>intro u r r' H hu h<;>cases u<;>
  simp only [T.text,T.wf,N6,NX,N2,OC,M8]at h H hu
 case nil.nil=>exact⟨rfl,h.2⟩
 case snd.snd G _ _ _=>
  obtain⟨rfl,_,rfl,_,h⟩:=h;obtain⟨rfl,k⟩:=G H.2 hu.2 h;exact⟨rfl,k⟩
 case rcv.rcv G _ _ _=>
  obtain⟨rfl,_,rfl,_,h⟩:=h;obtain⟨rfl,k⟩:=G H.2 hu.2 h;exact⟨rfl,k⟩
 case mat.mat G _ _ _=>
  obtain⟨_,rfl,_,rfl,_,h⟩:=h;obtain⟨rfl,k⟩:=G H.2 hu.2 h;exact⟨rfl,k⟩
 case res.res G _ _=>
  obtain⟨_,rfl,_,h⟩:=h;obtain⟨rfl,k⟩:=G H.2 hu.2 h;exact⟨rfl,k⟩
 case tau.tau G _=>
  obtain⟨rfl,k⟩:=G H hu h.2.2;exact⟨rfl,k⟩
 case rep.rep G _=>
  obtain⟨rfl,k⟩:=G H hu h.2;exact⟨rfl,k⟩
 case sum.sum G J _ _=>
  obtain⟨rfl,k⟩:=G H.1 hu.1 h.2;obtain⟨rfl,m⟩:=J H.2 hu.2 (Oa k).2;exact⟨rfl,(Oa m).2⟩
 case par.par G J _ _=>
  obtain⟨rfl,k⟩:=G H.1 hu.1 h.2;obtain⟨rfl,m⟩:=J H.2 hu.2 (Oa k).2;exact⟨rfl,(Oa m).2⟩
 case sum.par G J _ _=>
  obtain⟨rfl,k⟩:=G H.1 hu.1 h.2;exact absurd (Oa k).1 (by decide)
 case par.sum G J _ _=>
  obtain⟨rfl,k⟩:=G H.1 hu.1 h.2;exact absurd (Oa k).1 (by decide)
 all_goals
  exfalso
  first
   | exact absurd h.1 (by decide)
   | exact absurd h.2.1 (by decide)
   | (have Z:=tj hu.1.1;rw [<-h.1]at Z;simp at Z;done)
   | (have Z:=tj H.1.1;rw [h.1]at Z;simp at Z;done)
def fp {t u:P}(G:t.wf=true)(hu:u.wf=true)(h:t.text=u.text):t=u:=
 (kj G hu (r:=[]) (r':=[]) (by rw [h])).1
def Ex (w w':World):Prop:=Below w.heap.size w w'
def Ex.refl (w:World):Ex w w:=Qk _ _
def Ex.trans {a b c:World}(h:Ex a b)(k:Ex b c):Ex a c:=Below.trans h (Below.mono k h.size)
def Ex.drew (w:World):Ex w w.drew:=Below.drew (Qk _ _)
def Ex.alloc (w:World)(o:Obj):Ex w (w.alloc o):=Below.alloc (Qk _ _) (Nc _) o
def Ex.cell {w w':World}(h:Ex w w'){a:Addr}(ha:a.block< w.heap.size):w'.cell? a=w.cell? a:=Below.cell h ha
def Fv {c:UInt8}{w:World}{R:Bool->Qx}(h:R (nm c) w):Qy 202 #[.int .u8 c.toNat] w (ax [.b] R):=by
 refine tn c w R ?_;dsimp only [go_sem];dsimp only [go_sem,Nat.reduceAdd];have e:nm c=true\/nm c=false:=by cases nm c<;>simp
 unfold nm at*
 grind
def oh (p:Tx)(hp:p.length<=4611686018427387904):∀(n:Nat) (i:Int),0<=i->(p.length:Int) - i< n->i<=p.length+1->∀{w:World} {R:Int->Qx},R (endI p n i) w->
  Qy 159 #[.string (ay p),.int .i64 i] w (ax [.i] R):=by
 intro n
 induction n with
 | zero=>
  intro i H h1 J w R h;refine mE p i w R ?_;dsimp only [go_sem];exact⟨λ _=>h,λZ=>by simp at Z;omega⟩
 | succ n ih=>
  intro i H h1 J w R h;refine mE p i w R ?_;dsimp only [go_sem];dsimp only [go_sem,Nat.reduceAdd];have β:=CK p n (i+1) (by omega);have G:=CK p n (endI p n (i+1)+1);unfold endI at h;unfold cW
  repeat' first
   | refine Fv ?_
   | refine ih _ ?_ ?_ ?_ ?_
   | refine And.intro ?_ ?_
   | intro _
  all_goals grind
structure Ok (t:P):Prop where
 wf:t.wf=true
 len:t.text.length<=1099511627776
def Strs (w:World)(v:Value)(l:List Tx):Prop:=
 (v= .slice none 0 0/\l=[])\/∃b off cap,v= .slice (some ⟨b,off,none⟩) l.length cap/\b< w.heap.size/\∀i x,l[i]?=some x->w.cell? ⟨b,off+i,none⟩=some (.string (ay x))
def Strs.ex {w w':World}{v:Value}{l:List Tx}(h:Strs w v l)(k:Ex w w'):Strs w' v l:=by
 rcases h with h | ⟨b,off,cap,h1,G,H⟩
 ·exact .inl h
 ·exact .inr ⟨b,off,cap,h1,Nz G k.size,λi x J=>by rw [k.cell G];exact H i x J⟩
def Strs.slice {w:World}{v:Value}{l:List Tx}(h:Strs w v l):∃a cap,v= .slice a l.length cap:=by
 rcases h with⟨h,rfl⟩ | ⟨b,off,cap,h1,_⟩
 ·exact⟨_,_,h⟩
 ·exact⟨_,_,h1⟩
def Strs.at {w:World}{v:Value}{l:List Tx}(h:Strs w v l){i:Nat}(hi:i< l.length):
  ∃b off cap,v= .slice (some ⟨b,off,none⟩) l.length cap/\b< w.heap.size/\w.cell? ⟨b,off+i,none⟩=some (.string (ay l[i])):=by
 rcases h with⟨h,rfl⟩ | ⟨b,off,cap,h1,G,H⟩
 ·simp at hi
 ·exact⟨b,off,cap,h1,G,H i _ (M6 hi)⟩
def cI {p:Prop}{_:Decidable p}{A B:Prop}(h:p)(G:A):(decide p=true->A)/\(decide p=false->B):=⟨λ _=>G,λH=>absurd h (Ny H)⟩
def aR {p:Prop}{_:Decidable p}{A B:Prop}(h:¬p)(hB:B):(decide p=true->A)/\(decide p=false->B):=⟨λG=>absurd (NB G) h,λ _=>hB⟩
def dx {p:Prop}{_:Decidable p}{A B:Prop}(h:p)(G:A):(decide p=false->B)/\(decide p=true->A):=⟨λH=>absurd h (Ny H),λ _=>G⟩
def bV {p:Prop}{_:Decidable p}{A B:Prop}(h:¬p)(hB:B):(decide p=false->B)/\(decide p=true->A):=⟨λ _=>hB,λG=>absurd (NB G) h⟩
def aa {w:World}{c:Array Value}{el:Nat}{i:Nat}{v:Value}(h:c[i]?=some v):(w.alloc (.cells c el)).cell? ⟨w.heap.size,i,none⟩=some v:=by
 unfold World.cell? World.alloc;simp [h]
def size_alloc (w:World)(o:Obj):(w.alloc o).heap.size=w.heap.size+1:=by unfold World.alloc;simp
def oR (t:P)(hw:t.wf=true)(l:Tx)(i:Nat)(r:Tx)(h:l.drop i=t.text++r)(n:Nat)(H:(l.length:Int) - i< n):endI l n i=((i+t.text.length:Nat):Int):=by
 refine vi t n i r hw ?_ h;have h1:=bc t;have G:=N9 List.length h;simp only [OB,Nb]at G;omega
def Fe (l r:Tx)(i:Nat)(c:UInt8)(h:i=l.length):bt (l++c::r) i=c:=by
 subst h;simp [bt]
def aK {t:P}(ok:Ok t){w:World}{R:UInt8->Qx}(h:R t.kind w):Qy 144 #[.string (ay t.text)] w (ax [.c] R):=by
 refine rM _ w R ?_;dsimp only [go_sem];dsimp only [go_sem,Nat.reduceAdd];have hw:=ok.wf;have hl:=ok.len;cases t with
 | nil=>simpa [T.text,bt,T.kind]using h
 | rep p=>simpa [T.text,bt,T.kind]using h
 | tau p=>simp [T.text,bt];exact⟨by omega,h⟩
 | res x p=>simp [T.text,bt];exact⟨by omega,h⟩
 | mat a b p=>simp [T.text,bt];exact⟨by omega,h⟩
 | snd a b p=>
  simp only [T.wf,M8]at hw;obtain⟨n1,G,H,J,n5,n6⟩:=tj hw.1.1;simp [T.text,bt,n1,G,H,J,n5,n6];exact⟨by omega,by omega,h⟩
 | rcv a b p=>
  simp only [T.wf,M8]at hw;obtain⟨n1,G,H,J,n5,n6⟩:=tj hw.1.1;simp [T.text,bt,n1,G,H,J,n5,n6];exact⟨by omega,by omega,h⟩
 | sum p q=>
  simp only [T.wf,M8]at hw;have e:=oR p hw.1 (T.sum p q).text 1 (43::(q.text++[41])) rfl ((T.sum p q).text.length+1) (by omega);have Z:bt (T.sum p q).text (1+p.text.length)=43:=Fe (40::p.text) _ _ 43 (by simp;omega);have e3:1+p.text.length< (T.sum p q).text.length:=by simp only [T.text,M0,Nb];omega
  have e0:bt (T.sum p q).text 0=40:=rfl;simp only [Int.toNat_zero,e0];refine⟨by omega,?_⟩
  repeat' first | refine aR (by decide) ?_ | refine cI (by decide) ?_ | refine bV (by decide) ?_ | refine dx (by decide) ?_
  refine oh _ (by omega) _ 1 (by omega) (by omega:((T.sum p q).text.length:Int) - 1< ((T.sum p q).text.length+1:Nat)) (by omega) ?_;have e':endI (T.sum p q).text ((T.sum p q).text.length+1) 1=((1+p.text.length:Nat):Int):=e;rw [e'];refine⟨by omega,?_⟩;rw [Nf,Z];exact h
 | par p q=>
  simp only [T.wf,M8]at hw;have e:=oR p hw.1 (T.par p q).text 1 (38::(q.text++[41])) rfl ((T.par p q).text.length+1) (by omega);have Z:bt (T.par p q).text (1+p.text.length)=38:=Fe (40::p.text) _ _ 38 (by simp;omega);have e3:1+p.text.length< (T.par p q).text.length:=by simp only [T.text,M0,Nb];omega
  have e0:bt (T.par p q).text 0=40:=rfl;simp only [Int.toNat_zero,e0];refine⟨by omega,?_⟩
  repeat' first | refine aR (by decide) ?_ | refine cI (by decide) ?_ | refine bV (by decide) ?_ | refine dx (by decide) ?_
  refine oh _ (by omega) _ 1 (by omega) (by omega:((T.par p q).text.length:Int) - 1< ((T.par p q).text.length+1:Nat)) (by omega) ?_;have e':endI (T.par p q).text ((T.par p q).text.length+1) 1=((1+p.text.length:Nat):Int):=e;rw [e'];refine⟨by omega,?_⟩;rw [Nf,Z];exact h
def T.hd:P->Nat
 | .nil=>4 | .snd .. =>4 | .rcv .. =>4 | .tau _=>2 | .sum .. =>1 | .par .. =>1 | .res .. =>3 | .mat .. =>5 | .rep _=>1
def cB {t:P}(ok:Ok t){w:World}{R:Int->Qx}(h:R (t.hd:Int) w):Qy 180 #[.string (ay t.text)] w (ax [.i] R):=by
 refine tR _ w R ?_;dsimp only [go_sem];dsimp only [go_sem,Nat.reduceAdd];refine aK ok ?_;cases t<;>simpa [T.kind,T.hd]using h
def Ok.parts {t:P}(ok:Ok t):∀p∈t.parts,Ok p:=by
 have hw:=ok.wf;have G:=ok.len;cases t<;>simp only [T.parts,T.wf,T.text,M8,Nw,PO,Qg,M0,Nb]at hw G|-
 case nil=>intro p h;exact h.elim
 all_goals rintro _ (rfl | rfl)<;>(constructor<;>first | omega | simp_all)
def pW {t:P}(ok:Ok t){w:World}{R:Value->Qx}(h:∀v w',Ex w w'->Strs w' v (t.parts.map T.text)->(∀g,v.ownBlock=some g->w.heap.size<=g)->R v w'):
  Qy 141 #[.string (ay t.text)] w (ax [.v] R):=by
 refine qA _ w R ?_;dsimp only [go_sem];dsimp only [go_sem,Nat.reduceAdd];refine aK ok ?_;have hl:=ok.len;have hw:=ok.wf;have two:∀(w1:World) (x y:Tx) (H:World),Ex w w1->H=w1.alloc (.cells #[.string (ay x),.string (ay y)] 9)->Strs H (.slice (some ⟨w1.heap.size,0,none⟩) 2 2) [x,y]:=by
  rintro w1 x y H hx rfl
  refine .inr ⟨_,0,2,rfl,by rw [size_alloc];omega,λi z hz=>?_⟩;rw [NJ];refine aa ?_
  match i,hz with
  | 0,hz=>simp at hz|-;exact hz▸rfl
  | 1,hz=>simp at hz|-;exact hz▸rfl
  | i+2,hz=>simp at hz
 have one:∀(x:Tx) (H:World),H=w.alloc (.cells #[.string (ay x)] 9)->Strs H (.slice (some ⟨w.heap.size,0,none⟩) 1 1) [x]:=by
  rintro x H rfl
  refine .inr ⟨_,0,1,rfl,by rw [size_alloc];omega,λi z hz=>?_⟩;rw [NJ];refine aa ?_
  match i,hz with
  | 0,hz=>simp at hz|-;exact hz▸rfl
  | i+1,hz=>simp at hz
 cases t with
 | nil=>simpa [T.kind]using h _ _ (Ex.refl w) (.inl ⟨rfl,rfl⟩) (λg J=>by cases J)
 | sum p q=>
  simp only [T.wf,M8]at hw;simp only [T.kind]
  repeat' first | refine aR (by decide) ?_ | refine cI (by decide) ?_ | refine bV (by decide) ?_ | refine dx (by decide) ?_
  have e:=oR p hw.1 (T.sum p q).text 1 (43::(q.text++[41])) rfl ((T.sum p q).text.length+1) (by omega);refine oh _ (by omega) _ 1 (by omega) (by omega:((T.sum p q).text.length:Int) - 1< ((T.sum p q).text.length+1:Nat)) (by omega) ?_;have e':endI (T.sum p q).text ((T.sum p q).text.length+1) 1=((1+p.text.length:Nat):Int):=e;have e3:(T.sum p q).text.length=p.text.length+q.text.length+3:=by simp only [T.text,M0,Nb,Np];omega
  rw [e'];refine⟨λ _=>True,λw1 β=>⟨trivial,by omega,by omega,by omega,by omega,λb H hb G=>⟨trivial,?_⟩⟩⟩;subst hb;have x1:List.drop 1 (List.take (1+p.text.length) (T.sum p q).text)=p.text:=by
   show List.drop 1 (List.take (1+p.text.length) (40::(p.text++(43::(q.text++[41])))))=_;rw [Nat.add_comm,PL,List.drop_one,List.tail_cons,List.take_left]
  have x2:List.drop (((1+p.text.length:Nat):Int)+1).toNat (List.take (((T.sum p q).text.length:Int) - 1).toNat (T.sum p q).text)=q.text:=by
   have a1:(((1+p.text.length:Nat):Int)+1).toNat=(40::(p.text++[43])).length:=by simp;omega
   have a2:(((T.sum p q).text.length:Int) - 1).toNat=((40::(p.text++[43]))++q.text).length:=by simp;omega
   have a3:(T.sum p q).text=((40::(p.text++[43]))++q.text)++[41]:=by simp [T.text]
   rw [a1,a2,a3,List.take_left,P7]
  rw [Nf]at G;have Z:H=w1.alloc (.cells #[.string (ay p.text),.string (ay q.text)] 9):=by
   rw [G];congr 4
   ·exact N9 (λz=>Value.string (ay z)) x1
   ·exact N9 (λz=>[Value.string (ay z)]) x2
  have hx:Ex w w1:=β▸Ex.drew w;exact h _ _ (hx.trans (Z▸Ex.alloc w1 _)) (two w1 _ _ H hx Z) (λg J=>by cases J;exact hx.size)
 | par p q=>
  simp only [T.wf,M8]at hw;simp only [T.kind]
  repeat' first | refine aR (by decide) ?_ | refine cI (by decide) ?_ | refine bV (by decide) ?_ | refine dx (by decide) ?_
  have e:=oR p hw.1 (T.par p q).text 1 (38::(q.text++[41])) rfl ((T.par p q).text.length+1) (by omega);refine oh _ (by omega) _ 1 (by omega) (by omega:((T.par p q).text.length:Int) - 1< ((T.par p q).text.length+1:Nat)) (by omega) ?_;have e':endI (T.par p q).text ((T.par p q).text.length+1) 1=((1+p.text.length:Nat):Int):=e;have e3:(T.par p q).text.length=p.text.length+q.text.length+3:=by simp only [T.text,M0,Nb,Np];omega
  rw [e'];refine⟨λ _=>True,λw1 β=>⟨trivial,by omega,by omega,by omega,by omega,λb H hb G=>⟨trivial,?_⟩⟩⟩;subst hb;have x1:List.drop 1 (List.take (1+p.text.length) (T.par p q).text)=p.text:=by
   show List.drop 1 (List.take (1+p.text.length) (40::(p.text++(38::(q.text++[41])))))=_;rw [Nat.add_comm,PL,List.drop_one,List.tail_cons,List.take_left]
  have x2:List.drop (((1+p.text.length:Nat):Int)+1).toNat (List.take (((T.par p q).text.length:Int) - 1).toNat (T.par p q).text)=q.text:=by
   have a1:(((1+p.text.length:Nat):Int)+1).toNat=(40::(p.text++[38])).length:=by simp;omega
   have a2:(((T.par p q).text.length:Int) - 1).toNat=((40::(p.text++[38]))++q.text).length:=by simp;omega
   have a3:(T.par p q).text=((40::(p.text++[38]))++q.text)++[41]:=by simp [T.text]
   rw [a1,a2,a3,List.take_left,P7]
  rw [Nf]at G;have Z:H=w1.alloc (.cells #[.string (ay p.text),.string (ay q.text)] 9):=by
   rw [G];congr 4
   ·exact N9 (λz=>Value.string (ay z)) x1
   ·exact N9 (λz=>[Value.string (ay z)]) x2
  have hx:Ex w w1:=β▸Ex.drew w;exact h _ _ (hx.trans (Z▸Ex.alloc w1 _)) (two w1 _ _ H hx Z) (λg J=>by cases J;exact hx.size)
 | snd a b p=>
  simp only [T.kind]
  repeat' first | refine aR (by decide) ?_ | refine cI (by decide) ?_ | refine bV (by decide) ?_ | refine dx (by decide) ?_
  refine cB ok ?_;refine⟨by simp only [T.hd,T.text,M0];omega,λb1 H hb G=>?_⟩;subst hb;exact h _ _ (G▸Ex.alloc w _) (one p.text H G) (λg J=>by cases J;exact Nc _)
 | rcv a b p=>
  simp only [T.kind]
  repeat' first | refine aR (by decide) ?_ | refine cI (by decide) ?_ | refine bV (by decide) ?_ | refine dx (by decide) ?_
  refine cB ok ?_;refine⟨by simp only [T.hd,T.text,M0];omega,λb1 H hb G=>?_⟩;subst hb;exact h _ _ (G▸Ex.alloc w _) (one p.text H G) (λg J=>by cases J;exact Nc _)
 | tau p=>
  simp only [T.kind]
  repeat' first | refine aR (by decide) ?_ | refine cI (by decide) ?_ | refine bV (by decide) ?_ | refine dx (by decide) ?_
  refine cB ok ?_;refine⟨by simp only [T.hd,T.text,M0];omega,λb1 H hb G=>?_⟩;subst hb;exact h _ _ (G▸Ex.alloc w _) (one p.text H G) (λg J=>by cases J;exact Nc _)
 | rep p=>
  simp only [T.kind]
  repeat' first | refine aR (by decide) ?_ | refine cI (by decide) ?_ | refine bV (by decide) ?_ | refine dx (by decide) ?_
  refine cB ok ?_;refine⟨by simp only [T.hd,T.text,M0];omega,λb1 H hb G=>?_⟩;subst hb;exact h _ _ (G▸Ex.alloc w _) (one p.text H G) (λg J=>by cases J;exact Nc _)
 | res x p=>
  simp only [T.kind]
  repeat' first | refine aR (by decide) ?_ | refine cI (by decide) ?_ | refine bV (by decide) ?_ | refine dx (by decide) ?_
  refine cB ok ?_;refine⟨by simp only [T.hd,T.text,M0];omega,λb1 H hb G=>?_⟩;subst hb;exact h _ _ (G▸Ex.alloc w _) (one p.text H G) (λg J=>by cases J;exact Nc _)
 | mat a b p=>
  simp only [T.kind]
  repeat' first | refine aR (by decide) ?_ | refine cI (by decide) ?_ | refine bV (by decide) ?_ | refine dx (by decide) ?_
  refine cB ok ?_;refine⟨by simp only [T.hd,T.text,M0];omega,λb1 H hb G=>?_⟩;subst hb;exact h _ _ (G▸Ex.alloc w _) (one p.text H G) (λg J=>by cases J;exact Nc _)
def cD {t:P}(ok:Ok t){w:World}{R:Value->Qx}(h:∀v w',Ex w w'->Strs w' v (t.parts.map T.text)->R v w'):
  Qy 141 #[.string (ay t.text)] w (ax [.v] R):=pW ok λv w' h1 G _=>h v w' h1 G
def kC (s:Tx):Prop:=s.Pairwise (· < ·)
def kC.bound:∀{s:Tx},kC s->s.length<=256
 | [],_=>by simp
 | a::l,h=>by
  have key:∀(l:Tx) (a:UInt8),kC (a::l)->l.length+a.toNat<=255:=by
   intro l
   induction l with
   | nil=>intro a _;have :=a.toNat_lt;simp;omega
   | cons b l G=>
    intro a h;have h1:=OU.1 h;have H:=G b h1.2;have J:=N1.1 (h1.1 b (NP ..));simp only [M0];omega
  have :=key l a h;simp only [M0];omega
def pv {s:Tx}{i:Nat}(h:i< s.length):bt s i∈s:=by
 simp only [bt,List.getD_eq_getElem?_getD,M6 h,Option.getD_some];exact NC h
def Bo {s:Tx}{c:UInt8}(h:c∈s):∃i,i< s.length/\bt s i=c:=by
 obtain⟨i,hi,e⟩:=Od.1 h;exact⟨i,hi,by simp [bt,hi,e]⟩
end Go.Proofs.YthekamjhgabkjaaGreat
