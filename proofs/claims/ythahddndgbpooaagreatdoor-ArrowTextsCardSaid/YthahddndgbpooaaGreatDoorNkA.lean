/- Short names for lemmas of the library. -/
import Derived.ArgAppend
import Derived.Conc.Beside
import Derived.Conc.CrowdCom
import Derived.Deep.AppendLies
import Derived.Deep.Quiet
import Derived.Laws.Concat
import Derived.Lib.ItoaLen
import Derived.RangeFuncBox
set_option linter.all false
namespace Go
instance :Coe Int Value:=⟨.int .i64⟩
instance :Coe Nat Value:=⟨λn=>.int .i64 n⟩
universe u
theorem YA{α:Type u}{a:α}{l:List α}:(a::l)[0]? =some a:=rfl
theorem YB{α:Type u}{a:α}{i:Nat}{l:List α}:(a::l)[i+1]? =l[i]?:=rfl
theorem YC{α:Type u}{xs:List α}{i:Nat}:xs.toArray[i]? =xs[i]?:=List.getElem?_toArray
theorem YD{α:Type u}{p:α->Prop}{a:α}{l:List α}:(∀x,x∈a::l->p x)<->p a/\∀x,x∈l->p x:=List.forall_mem_cons
theorem YF{α:Type u}{i:Nat}{b:α}{xs:Array α}:xs[i]? =some b<->∃h:i<xs.size,xs[i]=b:=Array.getElem?_eq_some_iff
theorem YG(a b:Bool):((a&&b)=true)=(a=true/\b=true):=Bool.and_eq_true a b
theorem YH{α:Type u}{l:List α}{i:Nat}(h:i<l.length):l[i]? =some l[i]:=List.getElem?_eq_getElem h
theorem YI{α:Type u}{i:Nat}{a:α}{l:List α}:l[i]? =some a<->∃h:i<l.length,l[i]=a:=List.getElem?_eq_some_iff
theorem YJ{α:Type u}(s:List α):[]++s=s:=rfl
theorem YK{α:Type u}{a:α}{s t:List α}:(a::s)++t=a::(s++t):=rfl
theorem YL{α:Type u}{p:α->Bool}{l:List α}:l.all p=true<->∀x,x∈l->p x=true:=List.all_eq_true
theorem YM{α:Type u}{xs:Array α}{i:Nat}{a:α}(h:i<xs.size):(xs.setIfInBounds i a)[i]? =some a:=Array.getElem?_setIfInBounds_self_of_lt h
theorem YN{α:Type u}{xs:Array α}{i:Nat}(h:i<xs.size):xs[i]? =some xs[i]:=Array.getElem?_eq_getElem h
theorem YO{α:Type u}{xs:Array α}{i j:Nat}(h:i≠j){a:α}:(xs.setIfInBounds i a)[j]? =xs[j]?:=Array.getElem?_setIfInBounds_ne h
theorem YP{α:Type u}{a:α}{s:List α}:(a::s).length=s.length+1:=rfl
theorem YQ{α:Type u}{l:List α}{i:Nat}{a:α}(h:l[i]? =some a):a∈l:=List.mem_of_getElem? h
theorem YR:(false=true)=False:=Bool.false_eq_true
theorem YS{n m k:Nat}(h:n<m)(g:m<=k):n<k:=Nat.lt_of_lt_of_le h g
theorem YT{α:Type u}{a b:α}(h:some a=some b):a=b:=Option.some.inj h
theorem YU{m n:Nat}:m∈List.range n<->m<n:=List.mem_range
theorem YW{α:Type u}(y:α){a:α}{l:List α}(h:a∈l):a∈y::l:=List.mem_cons_of_mem y h
theorem YY{α:Type u}{a:α}{l:List α}:a∈a::l:=List.mem_cons_self
def YZ:=@if_pos
def XA:=@Nat.le_refl
def XB:=@if_neg
def XC:=@Nat.le_trans
def XD:=@Go.Conc.stepG_region_end
def XE:=@decide_eq_true_eq
def XG:=@List.mem_cons
def XH:=@List.length_append
def XI:=@Go.wpQuiet_nil
def XJ:=@Go.Conc.stepG_seq
def XK:=@Go.RowKit.ownsRow_setCell_below
def XL:=@Nat.zero_le
def XM:=@Option.some.injEq
def XN:=@Option.map_some
def XO:=@List.not_mem_nil
def XP:=@List.mem_singleton
def XQ:=@beq_eq_false_iff_ne
def XR:=@Go.Conc.mem_ofEvents
def XT:=@Go.World.ownsRow.form
def XU:=@beq_iff_eq
def XV:=@decide_eq_false
def XW:=@List.length_nil
def XX:=@List.take_of_length_le
def XY:=@if_true
def XZ:=@Bool.not_eq_true'
def VA:=@Option.map_eq_some_iff
def VB:=@decide_eq_true
def VC:=@Nat.lt_or_ge
def VD:=@Nat.zero_add
def VE:=@Go.bodyPost_ret
def VF:=@if_false
def VG:=@List.map_cons
def VH:=@Go.ByteArray.mk_append_mk
def VI:=@List.mem_append
def VJ:=@Go.World.ownsRow_nil
def VK:=@Go.ConcN.upd_same
def VL:=@List.take_add_one
def VM:=@List.setIfInBounds_toArray
def VN:=@List.length_take
def VO:=@Go.KeepsOthers.setCell
def VP:=@List.drop_eq_getElem_cons
def VQ:=@Classical.byContradiction
def VS:=@List.contains_iff_mem
def VT:=@Go.Conc.aside_setCell
def VU:=@List.foldl_cons
def VV:=@Go.Lib.itoa_length_le
def VW:=@List.mem_map
def VX:=@List.map_nil
def VY:=@Std.Legacy.Range.forIn_eq_forIn_range'
def VZ:=@List.drop_zero
def UA:=@Int.eq_ofNat_of_zero_le
def UB:=@Go.wpList_append_own
def UC:=@Go.World.putObj_heap_other
def UD:=@List.drop_succ_cons
def UE:=@or_false
def UF:=@Bool.or_eq_true
def UG:=@List.size_toArray
def UH:=@Go.Sem.run_bind
def UI:=@Option.isSome_iff_exists
def UJ:=@List.set_cons_zero
def UK:=@Go.Stepped.next.injEq
def UL:=@Go.mem_ready
def UM:=@Option.getD_some
def UN:=@List.flatMap_cons
def UO:=@List.mem_filter
def UP:=@Array.setIfInBounds_comm
def UQ:=@Go.Conc.stepG_region
def US:=@Int.toNat_natCast
def UT:=@Go.Conc.Goes.stop
def UU:=@List.set_cons_succ
def UV:=@Go.ready_mono
def UW:=@List.drop_length
def UX:=@Array.mem_append
def UY:=@Go.Conc.stepG_skip
def UZ:=@Iff.rfl
def TA:=@Nat.add_assoc
def TB:=@List.append_nil
def TC:=@List.take_length
def TD:=@List.map_toArray
def TE:=@Array.replicate_zero
def TF:=@Array.replicate_succ
def TG:=@List.append_toArray
def TH:=@List.length_map
def TI:=@Go.KeepsOthers.alloc
def TJ:=@Go.Act.put_comm
def TK:=@Int.mul_le_mul_of_nonneg_right
def TL:=@Nat.lt_succ_iff_lt_or_eq
def TM:=@List.push_toArray
def TO:=@Nat.min_eq_left
def TP:=@Bool.eq_iff_iff
def TQ:=@Go.Conc.aside_setCell
def TR:=@List.drop_of_length_le
def TS:=@Bool.true_and
def TU:=@Bool.false_or
def TV:=@List.mem_flatMap
def TW:=@Go.KeepsOthers.of_grownBy
def TX:=@Go.getD_set_ne
def TY:=@Nat.eq_zero_or_pos
def TZ:=@Go.grownBy_setCell'
def SB:=@Option.isNone_iff_eq_none
def SC:=@List.rel_of_pairwise_cons
def SD:=@of_decide_eq_true
def SF:=@Nat.pow_le_pow_right
def SG:=@Nat.mul_le_mul_right
def SH:=@Nat.le_of_eq
def SI:=@Go.callsIn_wide
def SJ:=@Ne.symm
def SK:=@Option.bind_some
def SL:=@List.length_eq_zero_iff
def SM:=@List.any_eq_true
def SN:=@Go.wpList_append_grows
def SP:=@List.eq_nil_of_length_eq_zero
def SQ:=@Go.Conc.stepG_ret'
def SR:=@List.zip_cons_cons
def SS:=@Go.Conc.Deaf_other
def SU:=@List.cons.injEq
def SV:=@Prod.mk.injEq
def SY:=@Go.ConcR.ofEvent_cell
def SZ:=@Bool.not_true
def RA:=@Go.run_equalIn_agg
def RB:=@List.pairwise_append
def RD:=@Array.mem_toList_iff
def RE:=@Go.Region.noSelect_spec
def RF:=@List.pairwise_iff_getElem
def RG:=@Array.mapM_eq_mapM_toList
def RH:=@Array.length_toList
def RJ:=@congrArg
def RK:=@Go.Conc.mem_listed
def RL:=@Option.toList_some
def RM:=@Array.forIn_toList
def RN:=@Int.le_refl
def RO:=@Go.run_eqGuard_agg
def RP:=@Go.grownBy_putObj'
def RQ:=@Go.wpOp_mono
def RR:=@Go.results_tmp
def RS:=@Nat.add_zero
def RU:=@List.flatten_cons
def RV:=@List.append_assoc
def RX:=@Decidable.not_not
def RY:=@Go.Conc.runT_crowd_go
def RZ:=@Go.Result.andThen_ok
def QA:=@Go.MapKept.run_getObj_map
def QB:=@List.take_append_drop
def QC:=@List.length_filter_le
def QD:=@List.Pairwise.of_cons
def QE:=@Classical.choose_spec
def QF:=@List.isEmpty_iff
def QG:=@Go.ConcN.get_map_set
def QH:=@List.mem_of_mem_take
def QI:=@List.mem_append_left
def QJ:=@Bool.and_eq_true_iff
def QK:=@UInt8.toNat_inj
def QL:=@List.map_append
def QM:=@Bool.true_or
def QN:=@Go.Oper.upon_value
def QO:=@Go.Oper.apart_spec
def QP:=@Go.Frame.finish_at
def QQ:=@Go.Conc.Goes.cases
def QR:=@Bool.false_and
def QS:=@Array.foldl_toList
def QT:=@Go.step_lone_go
def QU:=@Go.Conc.solo_eq_crowd
def QV:=@Nat.lt_trichotomy
def QW:=@Nat.le_succ
def QX:=@Nat.add_mul
def QY:=@Array.toList_push
def QZ:=@List.all_cons
theorem OA{p:Prop}(h:p:=by omega):p:=h
theorem OB{p:Prop}(h:p:=by kernel_rfl):p:=h
theorem OC{p:Prop}(h:p:=by decide):p:=h
theorem OD{p:Prop}(h:p:=by simp):p:=h
theorem OE{p:Prop}(h:p:=by simp[go_sem,execOp,Act.eval]):p:=h
theorem OF{p:Prop}(h:p:=by (repeat (with_reducible first|assumption|exact Ext.rfl' _|apply Ext.alloc|apply Ext.drew))):p:=h
theorem Calls.q{P:Program}{f:FuncId}{a:Array Value}{w y:World}{v:Value}{R:Ending->World->Prop}(h:Calls P f a w fun e u=>e= .returned v∧u=y)(k:R (.returned v) y):Calls P f a w R:=h.mono (by rintro _ _ ⟨rfl,rfl⟩;exact k)
theorem Calls.r{P:Program}{f:FuncId}{a:Array Value}{w:World}{v:Value}{E:World->Prop}{R:Ending->World->Prop}(h:Calls P f a w fun e u=>e= .returned v∧E u)(k:∀u,E u->R (.returned v) u):Calls P f a w R:=h.mono (by rintro _ _ ⟨rfl,g⟩;exact k _ g)
def OJ(v:Value)(w:World):Unit:=()
instance (v:Value)(w:World):CoeDep Unit (OJ v w) (Ending->World->Prop):=⟨λe u=>e= .returned v∧u=w⟩
def OG:Unit:=()
instance :CoeDep Unit OG (Array Value):=⟨#[.int .i64 0,.int .i64 0,.int .i64 0,.int .i64 0,.slice none 0 0]⟩
def OH:Unit:=()
instance :CoeDep Unit OH (Array Value):=⟨#[.int .i64 0,.int .i64 0]⟩
instance :Coe Nat Addr:=⟨λb=>⟨b,0,none⟩⟩
end Go
