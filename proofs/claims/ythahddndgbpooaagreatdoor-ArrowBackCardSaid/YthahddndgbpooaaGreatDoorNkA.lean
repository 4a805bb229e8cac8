/- Short names for lemmas of the library. -/
import Derived.ArgAppend
import Derived.Below
import Derived.Calls
import Derived.CallsIn
import Derived.Conc.Beside
import Derived.Conc.Crowd
import Derived.Conc.CrowdBase
import Derived.Conc.CrowdCom
import Derived.Conc.CrowdSit
import Derived.Conc.Deaf
import Derived.Conc.Know
import Derived.Conc.Listed
import Derived.Conc.Own
import Derived.Conc.Own4
import Derived.Conc.Pipeline
import Derived.Conc.RingWorld
import Derived.Conc.WrBase2
import Derived.Deep.AppendLies
import Derived.Deep.Quiet
import Derived.Laws.AppendOwn
import Derived.Laws.BitsLemmas
import Derived.Laws.Concat
import Derived.Laws.Sem
import Derived.Laws.StructEq
import Derived.Laws.Tables
import Derived.Lib.Hide
import Derived.Lib.ItoaLen
import Derived.MapKept
import Derived.Orders
import Derived.RangeFuncBox
import Derived.RangeFuncOwn
import Derived.RangeFuncRecord
import Derived.Tactics
import GoSem.Core.Machine
import Derived.KernelRfl
import GoSem.Core.Sem
set_option linter.all false
namespace Go
instance :Coe Int Value:=⟨.int .i64⟩
instance :Coe Nat Value:=⟨λn=>.int .i64 n⟩
universe u
theorem YA{α:Type u}{a:α}{l:List α}:(a::l)[0]? =some a:=rfl
theorem YB{α:Type u}{a:α}{i:Nat}{l:List α}:(a::l)[i+1]? =l[i]?:=rfl
theorem YC{α:Type u}{xs:List α}{i:Nat}:xs.toArray[i]? =xs[i]?:=List.getElem?_toArray
theorem YD{α:Type u}{p:α->Prop}{a:α}{l:List α}:(∀x,x∈a::l->p x)<->p a/\∀x,x∈l->p x:=List.forall_mem_cons
theorem YF{α:Type u}{i:Nat}{b:α}{xs:Array α}:xs[i]? =some b<->∃h:i<xs.size,xs[i]=b:=Array.getElem?_eq_some_iff
theorem YG(a b:Bool):((a&&b)=true)=(a=true/\b=true):=Bool.and_eq_true a b
theorem YH{α:Type u}{l:List α}{i:Nat}(h:i<l.length):l[i]? =some l[i]:=List.getElem?_eq_getElem h
theorem YI{α:Type u}{i:Nat}{a:α}{l:List α}:l[i]? =some a<->∃h:i<l.length,l[i]=a:=List.getElem?_eq_some_iff
theorem YJ{α:Type u}(s:List α):[]++s=s:=rfl
theorem YK{α:Type u}{a:α}{s t:List α}:(a::s)++t=a::(s++t):=rfl
theorem YL{α:Type u}{p:α->Bool}{l:List α}:l.all p=true<->∀x,x∈l->p x=true:=List.all_eq_true
theorem YM{α:Type u}{xs:Array α}{i:Nat}{a:α}(h:i<xs.size):(xs.setIfInBounds i a)[i]? =some a:=Array.getElem?_setIfInBounds_self_of_lt h
theorem YN{α:Type u}{xs:Array α}{i:Nat}(h:i<xs.size):xs[i]? =some xs[i]:=Array.getElem?_eq_getElem h
theorem YO{α:Type u}{xs:Array α}{i j:Nat}(h:i≠j){a:α}:(xs.setIfInBounds i a)[j]? =xs[j]?:=Array.getElem?_setIfInBounds_ne h
theorem YP{α:Type u}{a:α}{s:List α}:(a::s).length=s.length+1:=rfl
theorem YQ{α:Type u}{l:List α}{i:Nat}{a:α}(h:l[i]? =some a):a∈l:=List.mem_of_getElem? h
theorem YR:(false=true)=False:=Bool.false_eq_true
theorem YS{n m k:Nat}(h:n<m)(g:m<=k):n<k:=Nat.lt_of_lt_of_le h g
theorem YT{α:Type u}{a b:α}(h:some a=some b):a=b:=Option.some.inj h
theorem YU{m n:Nat}:m∈List.range n<->m<n:=List.mem_range
theorem YW{α:Type u}(y:α){a:α}{l:List α}(h:a∈l):a∈y::l:=List.mem_cons_of_mem y h
theorem YY{α:Type u}{a:α}{l:List α}:a∈a::l:=List.mem_cons_self
def YZ:=@if_pos
def XA:=@if_neg
def XB:=@Nat.le_refl
def XC:=@Go.Conc.stepG_region_end
def XD:=@Nat.le_trans
def XE:=@List.mem_cons
def XG:=@decide_eq_true_eq
def XH:=@Go.Conc.stepG_seq
def XI:=@Option.map_some
def XJ:=@Option.some.injEq
def XK:=@List.length_append
def XL:=@List.not_mem_nil
def XM:=@List.length_nil
def XN:=@Go.Conc.mem_ofEvents
def XO:=@List.mem_singleton
def XP:=@Go.World.ownsRow.form
def XQ:=@if_true
def XR:=@Bool.not_eq_true'
def XS:=@Nat.zero_le
def XT:=@Option.map_eq_some_iff
def XU:=@Go.wpQuiet_nil
def XV:=@decide_eq_false
def XW:=@beq_iff_eq
def XX:=@decide_eq_true
def XY:=@Nat.lt_or_ge
def XZ:=@if_false
def VA:=@Go.RowKit.ownsRow_setCell_below
def VB:=@List.mem_append
def VC:=@List.map_cons
def VD:=@List.mem_map
def VE:=@Go.bodyPost_ret
def VF:=@Go.ConcN.upd_same
def VG:=@List.setIfInBounds_toArray
def VH:=@List.contains_iff_mem
def VI:=@Go.Conc.aside_setCell
def VJ:=@Go.KeepsOthers.setCell
def VK:=@Std.Legacy.Range.forIn_eq_forIn_range'
def VL:=@Int.eq_ofNat_of_zero_le
def VM:=@List.foldl_cons
def VN:=@Go.World.ownsRow_nil
def VO:=@or_false
def VP:=@List.drop_zero
def VQ:=@List.map_nil
def VS:=@Classical.byContradiction
def VT:=@List.take_of_length_le
def VU:=@List.set_cons_zero
def VV:=@Go.Stepped.next.injEq
def VW:=@List.drop_succ_cons
def VX:=@Option.getD_some
def VY:=@Go.World.putObj_heap_other
def VZ:=@List.size_toArray
def UA:=@Nat.zero_add
def UB:=@Bool.or_eq_true
def UC:=@beq_eq_false_iff_ne
def UD:=@Go.Conc.stepG_region
def UE:=@List.flatMap_cons
def UF:=@Int.toNat_natCast
def UG:=@Go.wpList_append_own
def UH:=@Go.Conc.Goes.stop
def UI:=@List.length_map
def UJ:=@Go.Lib.itoa_length_le
def UK:=@List.length_take
def UL:=@Array.mem_append
def UM:=@Go.Sem.run_bind
def UN:=@Go.Conc.stepG_skip
def UO:=@Iff.rfl
def UP:=@List.mem_filter
def UQ:=@List.append_nil
def US:=@List.set_cons_succ
def UT:=@List.take_length
def UU:=@Array.replicate_zero
def UV:=@Array.replicate_succ
def UW:=@Go.mem_ready
def UX:=@List.append_toArray
def UY:=@Go.KeepsOthers.alloc
def UZ:=@Go.ByteArray.mk_append_mk
def TA:=@Go.Act.put_comm
def TB:=@List.drop_length
def TC:=@Int.mul_le_mul_of_nonneg_right
def TD:=@Nat.lt_succ_iff_lt_or_eq
def TE:=@Go.ready_mono
def TF:=@Array.setIfInBounds_comm
def TG:=@List.take_add_one
def TH:=@List.push_toArray
def TI:=@Go.Conc.aside_setCell
def TJ:=@List.drop_of_length_le
def TK:=@Nat.add_assoc
def TL:=@Bool.true_and
def TM:=@List.map_toArray
def TO:=@Nat.eq_zero_or_pos
def TP:=@List.rel_of_pairwise_cons
def TQ:=@Bool.eq_iff_iff
def TR:=@of_decide_eq_true
def TS:=@Nat.mul_le_mul_right
def TU:=@Nat.le_of_eq
def TV:=@Bool.false_or
def TW:=@Go.getD_set_ne
def TX:=@Go.callsIn_wide
def TY:=@Go.wpList_append_grows
def TZ:=@List.eq_nil_of_length_eq_zero
def SB:=@Go.Conc.stepG_ret'
def SC:=@Ne.symm
def SD:=@List.zip_cons_cons
def SF:=@Go.Conc.Deaf_other
def SG:=@congrArg
def SH:=@List.cons.injEq
def SI:=@Prod.mk.injEq
def SJ:=@Go.KeepsOthers.of_grownBy
def SK:=@Go.ConcR.ofEvent_cell
def SL:=@Go.run_equalIn_agg
def SM:=@List.flatten_cons
def SN:=@List.pairwise_append
def SP:=@Array.mem_toList_iff
def SQ:=@Option.bind_some
def SR:=@List.mem_flatMap
def SS:=@List.any_eq_true
def SU:=@List.pairwise_iff_getElem
def SV:=@List.drop_eq_getElem_cons
def SY:=@Array.mapM_eq_mapM_toList
def SZ:=@Array.length_toList
def RA:=@Bool.not_true
def RB:=@Go.Conc.mem_listed
def RD:=@Array.forIn_toList
def RE:=@Int.le_refl
def RF:=@Go.run_eqGuard_agg
def RG:=@Go.results_tmp
def RH:=@Go.Conc.runT_crowd_go
def RJ:=@Go.MapKept.run_getObj_map
def RK:=@List.length_filter_le
def RL:=@List.Pairwise.of_cons
def RM:=@Classical.choose_spec
def RN:=@Go.ConcN.get_map_set
def RO:=@Nat.pow_le_pow_right
def RP:=@List.mem_append_left
def RQ:=@Bool.and_eq_true_iff
def RR:=@Go.wpOp_mono
def RS:=@Nat.min_eq_left
def RU:=@Go.Region.noSelect_spec
def RV:=@Nat.add_zero
def RX:=@Bool.true_or
def RY:=@Go.Oper.apart_spec
def RZ:=@Go.Conc.Goes.cases
def QA:=@Bool.false_and
def QB:=@Array.foldl_toList
def QC:=@Go.Conc.solo_eq_crowd
def QD:=@Option.isNone_iff_eq_none
def QE:=@Nat.lt_trichotomy
def QF:=@Nat.add_mul
def QG:=@List.append_assoc
def QH:=@Array.toList_push
def QI:=@List.all_cons
def QJ:=@Array.size_setIfInBounds
def QK:=@Go.setCell_eq_setRow
def QL:=@decide_eq_false_iff_not
def QM:=@Go.Result.andThen_ok
def QN:=@Nat.le_add_right
def QO:=@List.isEmpty_iff
def QP:=@Bool.not_eq_true
def QQ:=@Array.ext
def QR:=@Go.run_takeDeferred
def QS:=@Go.grownBy_setCell'
def QT:=@List.map_append
def QU:=@Go.IntKind.wrap_i64
def QV:=@Go.Lib.hid
def QW:=@Go.Conc.noRace_append
def QX:=@Go.grownBy_putObj'
def QY:=@Go.ConcN.RW.refl
def QZ:=@Go.Oper.upon_value
end Go
