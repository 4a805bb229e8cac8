import Derived.Test.YtedkbdkbbnemlaaGreatDoorNkA
import Derived.Test.YtedkbdkbbnemlaaGreatDoorNk06
import Derived.Test.YtedkbdkbbnemlaaGreatDoorProg
import Derived.WalkKit
set_option linter.all false
namespace Go.Proofs.Tryq
set_option maxRecDepth 100000
open Go Go.Nk
abbrev theBan:Ban:=⟨fun f=>f==155,fun _=>1,true⟩
attribute [local instance] theBan
def stub:Func:={name:= "",origin:= "",params:= #[],resultTypes:= #[],nfree:=0,ntmps:=0,results:= #[],body:=none,norace:=false,tmpNames:= #[]}
def op(d:Option Tmp)(o:Op):Oper:={dst:=d,op:=o,type:=0,pos:= "",after:= #[],guard:=none}
def kRule:Array Oper:= #[
 op (some 9) (.build 146 #[(0,.tmp 0)]),
 op (some 1) (.field 143 (.tmp 0) 0),op (some 2) (.field 70 (.tmp 1) 0),op (some 3) (.field 70 (.tmp 1) 1),
 op (some 4) (.field 67 (.tmp 2) 0),op (some 5) (.field 67 (.tmp 2) 1),op (some 6) (.field 67 (.tmp 2) 2),op (some 7) (.field 67 (.tmp 2) 3),
 op (some 8) (.binOp .leq 3 (.tmp 4) (.const (.int .i64 0)) 3),op (some 8) (.binOp .leq 3 (.tmp 5) (.const (.int .i64 0)) 3),op (some 8) (.binOp .leq 3 (.tmp 6) (.const (.int .i64 0)) 3),op (some 8) (.binOp .leq 3 (.tmp 7) (.const (.int .i64 0)) 3),
 op (some 10) (.call {callee:= .builtin .len,args:= #[.tmp 3],argTypes:= #[68]}),op (some 11) (.binOp .leq 3 (.tmp 10) (.const (.int .i64 8)) 3),op (some 12) (.move (.const (.int .i64 0)))]
def kShot:Array Oper:= #[
 op (some 14) (.indexAddr 68 (.tmp 3) (.tmp 12)),op (some 15) (.fieldAddr 80 (.tmp 14) 0),op (some 16) (.load 3 (.tmp 15)),
 op (some 17) (.fieldAddr 80 (.tmp 14) 1),op (some 18) (.fieldAddr 48 (.tmp 17) 0),op (some 19) (.load 3 (.tmp 18)),op (some 20) (.fieldAddr 48 (.tmp 17) 1),op (some 21) (.load 3 (.tmp 20)),
 op (some 22) (.fieldAddr 80 (.tmp 14) 2),op (some 23) (.load 3 (.tmp 22)),op (some 24) (.fieldAddr 80 (.tmp 14) 3),op (some 25) (.load 3 (.tmp 24)),
 op (some 26) (.binOp .leq 3 (.tmp 19) (.const (.int .i64 0)) 3),op (some 26) (.binOp .leq 3 (.tmp 21) (.const (.int .i64 0)) 3),op (some 26) (.binOp .leq 3 (.tmp 23) (.const (.int .i64 0)) 3),op (some 26) (.binOp .leq 3 (.tmp 25) (.const (.int .i64 0)) 3),
 op (some 28) (.binOp .leq 3 (.const (.int .i64 0)) (.tmp 16) 3),op (some 29) (.binOp .leq 3 (.tmp 16) (.const (.int .i64 90)) 3)]
def kNext:Array Oper:= #[op (some 30) (.binOp .add 3 (.tmp 12) (.const (.int .i64 1)) 3),op (some 12) (.move (.tmp 30))]
def kTest:Array Oper:= #[op (some 13) (.binOp .lss 3 (.tmp 12) (.tmp 10) 3)]
def kCheck:Code:= .seq (.region 1 kTest false) (.seq (.cond (.tmp 13) .skip (.exit 0)) (.seq (.region 2 kShot false) (.seq (.cond (.tmp 28) .skip (.exit 9)) (.seq (.cond (.tmp 29) .skip (.exit 9)) (.region 3 kNext false)))))
def kMake:Array Oper:= #[op (some 31) (.makeSlice 144 (.tmp 10) (.tmp 10)),op (some 12) (.move (.const (.int .i64 0)))]
def kOne:Array Oper:= #[op (some 32) (.call {callee:= .value (.func 164),args:= #[.tmp 0,.tmp 12],argTypes:= #[143,3]}),op (some 33) (.indexAddr 144 (.tmp 31) (.tmp 12)),op none (.store 188 (.tmp 33) (.tmp 32))]
def kBuild:Code:= .seq (.region 5 kTest false) (.seq (.cond (.tmp 13) .skip (.exit 1)) (.seq (.region 6 kOne false) (.region 7 kNext false)))
def kBody:Code:= .seq (.region 0 kRule false) (.seq (.cond (.tmp 11) .skip (.exit 9)) (.seq (.block 0 (.loop kCheck)) (.seq (.region 4 kMake false) (.seq (.block 1 (.loop kBuild)) .ret))))
def kf:Func:={name:= "",origin:= "",params:= #[143],resultTypes:= #[144],nfree:=0,ntmps:=34,results:= #[.tmp 31],body:=some kBody,norace:=false,tmpNames:= #[]}
noncomputable def fs:Array Func:= #[
 stub,stub,stub,stub,stub,stub,stub,stub,stub,stub,stub,stub,
 stub,stub,stub,stub,stub,stub,Tryz.f18,stub,stub,Tryz.f21,Tryz.f22,Tryz.f23,
 stub,Tryz.f25,Tryz.f26,Tryz.f27,stub,Tryz.f29,Tryz.f30,stub,stub,stub,Tryz.f34,stub,
 stub,Tryz.f37,stub,Tryz.f39,stub,Tryz.f41,stub,stub,stub,Tryz.f45,stub,stub,
 stub,Tryz.f49,stub,Tryz.f51,Tryz.f52,Tryz.f53,stub,stub,Tryz.f56,stub,Tryz.f58,Tryz.f59,
 stub,stub,Tryz.f62,stub,stub,stub,Tryz.f66,stub,Tryz.f68,stub,stub,stub,
 stub,Tryz.f73,stub,stub,stub,stub,stub,stub,stub,stub,stub,stub,
 Tryz.f84,Tryz.f85,Tryz.f86,Tryz.f87,stub,stub,Tryz.f90,Tryz.f91,Tryz.f92,Tryz.f93,Tryz.f94,Tryz.f95,
 Tryz.f96,Tryz.f97,stub,stub,Tryz.f100,Tryz.f101,stub,Tryz.f103,Tryz.f104,Tryz.f105,Tryz.f106,Tryz.f107,
 Tryz.f108,Tryz.f109,Tryz.f110,Tryz.f111,Tryz.f112,Tryz.f113,Tryz.f114,Tryz.f115,stub,stub,stub,stub,
 stub,Tryz.f121,Tryz.f122,Tryz.f123,Tryz.f124,Tryz.f125,Tryz.f126,stub,Tryz.f128,Tryz.f129,Tryz.f130,stub,
 stub,stub,stub,Tryz.f135,Tryz.f136,Tryz.f137,Tryz.f138,Tryz.f139,Tryz.f140,Tryz.f141,Tryz.f142,Tryz.f143,
 stub,Tryz.f145,Tryz.f146,stub,Tryz.f148,Tryz.f149,Tryz.f150,Tryz.f151,Tryz.f152,Tryz.f153,stub,kf,
 Tryz.f156,Tryz.f157,Tryz.f158,Tryz.f159,Tryz.f160,stub,stub,stub,Tryz.f164,stub,stub,Tryz.f167,
 Tryz.f168,Tryz.f169,stub,stub,stub,stub,stub,stub,stub,stub,stub,stub,
 stub,stub,stub,stub,stub,stub,stub,stub,stub,Tryz.f189,stub,stub,
 stub,stub,stub,stub,stub,stub,stub,stub,stub,stub,stub,stub,
 stub,stub,stub,stub,stub,stub,stub,Tryz.f211,Tryz.f212,Tryz.f213,Tryz.f214,Tryz.f215,
 Tryz.f216,stub,stub,stub,stub,stub,stub,stub]
noncomputable def prog:Program:=Z6 Tryz.prog fs
def Gs:Nat->Bool:=fun g=>decide (g<4)
def keptList:List Nat:=[18,21,22,23,25,26,27,29,30,34,37,39,41,45,49,51,52,53,56,58,59,62,66,68,73,84,85,86,87,90,91,92,93,94,95,96,97,100,101,103,104,105,106,107,108,109,110,111,112,113,114,115,121,122,123,124,125,126,128,129,130,135,136,137,138,139,140,141,142,143,145,146,148,149,150,151,152,153,156,157,158,159,160,164,167,168,169,189,211,212,213,214,215,216]
def okB(P:Program)(fs:Array Func)(i:Nat):Bool:=match fs[i]? with
 |none=>true
 |some fn'=>Z6k fn'||(match P.funcs[i]? with|none=>false|some fn=>fn'.body.isSome&&fn.body.isSome&& !(fn'.name== "runtime.NumGoroutine")&& !(fn.name== "runtime.NumGoroutine"))
theorem Z3v{P:Program}{fs:Array Func}(n:Nat)(hn:fs.size=n)(h:(List.range n).all (okB P fs)=true)(hT:P.info? 1000000000=none):Z3T P fs:=by
 refine⟨fun f fn' hf=> ?_,hT⟩;have A4:f<n:=by rw[<-hn];exact(YF.1 hf).1
 have h1:=YL.1 h f (YU.2 A4);unfold okB at h1;rw[hf] at h1;simp only[Bool.or_eq_true] at h1;rcases h1 with h1|h1
 ·exact .inl h1
 ·right
  split at h1
  ·cases h1
  ·rename_i fn hfn;simp only[YG,Bool.not_eq_true'] at h1;exact⟨fn',fn,hf,hfn,h1.1.1.1,h1.1.1.2,h1.1.2,h1.2⟩
theorem fs_size:fs.size=224:=by kernel_rfl
theorem fsOk:Z3T Tryz.prog fs:=Z3v 224 fs_size (by kernel_rfl) (by kernel_rfl)
theorem fsOkS:Z3T prog fs:=Z3v 224 fs_size (by kernel_rfl) (by kernel_rfl)
def tmB(P:Program)(Gs:Nat->Bool)(i:Nat):Bool:=match P.funcs[i]? with
 |some fn=>(match fn.body with|some c=>Zn P Gs c|none=>false)
 |none=>false
theorem Z9r{P:Program}{fs:Array Func}{Gs:Nat->Bool}{i:Nat}(h:tmB P Gs i=true)(hs:fs[i]? =P.funcs[i]?):Tm P fs Gs i:=by
 unfold tmB at h;split at h
 ·rename_i fn hfn;split at h
  ·rename_i c hc;exact⟨fn,c,hs.trans hfn,hfn,hc,h⟩
  ·cases h
 ·cases h
theorem same18:fs[18]? =Tryz.prog.funcs[18]? :=by kernel_rfl
theorem same110:fs[110]? =Tryz.prog.funcs[110]? :=by kernel_rfl
theorem same111:fs[111]? =Tryz.prog.funcs[111]? :=by kernel_rfl
theorem same152:fs[152]? =Tryz.prog.funcs[152]? :=by kernel_rfl
theorem same164:fs[164]? =Tryz.prog.funcs[164]? :=by kernel_rfl
theorem kept_same:∀i∈keptList,fs[i]? =Tryz.prog.funcs[i]? :=
 YD.2 ⟨by kernel_rfl,YD.2 ⟨by kernel_rfl,YD.2 ⟨by kernel_rfl,YD.2 ⟨by kernel_rfl,YD.2 ⟨by kernel_rfl,YD.2 ⟨by kernel_rfl,YD.2 ⟨by kernel_rfl,YD.2 ⟨by kernel_rfl,YD.2 ⟨by kernel_rfl,YD.2 ⟨by kernel_rfl,YD.2 ⟨by kernel_rfl,YD.2 ⟨by kernel_rfl,YD.2 ⟨by kernel_rfl,YD.2 ⟨by kernel_rfl,YD.2 ⟨by kernel_rfl,YD.2 ⟨by kernel_rfl,YD.2 ⟨by kernel_rfl,YD.2 ⟨by kernel_rfl,YD.2 ⟨by kernel_rfl,YD.2 ⟨by kernel_rfl,YD.2 ⟨by kernel_rfl,YD.2 ⟨by kernel_rfl,YD.2 ⟨by kernel_rfl,YD.2 ⟨by kernel_rfl,YD.2 ⟨by kernel_rfl,YD.2 ⟨by kernel_rfl,YD.2 ⟨by kernel_rfl,YD.2 ⟨by kernel_rfl,YD.2 ⟨by kernel_rfl,YD.2 ⟨by kernel_rfl,YD.2 ⟨by kernel_rfl,YD.2 ⟨by kernel_rfl,YD.2 ⟨by kernel_rfl,YD.2 ⟨by kernel_rfl,YD.2 ⟨by kernel_rfl,YD.2 ⟨by kernel_rfl,YD.2 ⟨by kernel_rfl,YD.2 ⟨by kernel_rfl,YD.2 ⟨by kernel_rfl,YD.2 ⟨by kernel_rfl,YD.2 ⟨by kernel_rfl,YD.2 ⟨by kernel_rfl,YD.2 ⟨by kernel_rfl,YD.2 ⟨by kernel_rfl,YD.2 ⟨by kernel_rfl,YD.2 ⟨by kernel_rfl,YD.2 ⟨by kernel_rfl,YD.2 ⟨by kernel_rfl,YD.2 ⟨by kernel_rfl,YD.2 ⟨by kernel_rfl,YD.2 ⟨by kernel_rfl,YD.2 ⟨by kernel_rfl,YD.2 ⟨by kernel_rfl,YD.2 ⟨by kernel_rfl,YD.2 ⟨by kernel_rfl,YD.2 ⟨by kernel_rfl,YD.2 ⟨by kernel_rfl,YD.2 ⟨by kernel_rfl,YD.2 ⟨by kernel_rfl,YD.2 ⟨by kernel_rfl,YD.2 ⟨by kernel_rfl,YD.2 ⟨by kernel_rfl,YD.2 ⟨by kernel_rfl,YD.2 ⟨by kernel_rfl,YD.2 ⟨by kernel_rfl,YD.2 ⟨by kernel_rfl,YD.2 ⟨by kernel_rfl,YD.2 ⟨by kernel_rfl,YD.2 ⟨by kernel_rfl,YD.2 ⟨by kernel_rfl,YD.2 ⟨by kernel_rfl,YD.2 ⟨by kernel_rfl,YD.2 ⟨by kernel_rfl,YD.2 ⟨by kernel_rfl,YD.2 ⟨by kernel_rfl,YD.2 ⟨by kernel_rfl,YD.2 ⟨by kernel_rfl,YD.2 ⟨by kernel_rfl,YD.2 ⟨by kernel_rfl,YD.2 ⟨by kernel_rfl,YD.2 ⟨by kernel_rfl,YD.2 ⟨by kernel_rfl,YD.2 ⟨by kernel_rfl,YD.2 ⟨by kernel_rfl,YD.2 ⟨by kernel_rfl,YD.2 ⟨by kernel_rfl,YD.2 ⟨by kernel_rfl,YD.2 ⟨by kernel_rfl,YD.2 ⟨by kernel_rfl,YD.2 ⟨by kernel_rfl,YD.2 ⟨by kernel_rfl,YD.2 ⟨by kernel_rfl,YD.2 ⟨by kernel_rfl,YD.2 ⟨by kernel_rfl,fun _ h=>by cases h⟩⟩⟩⟩⟩⟩⟩⟩⟩⟩⟩⟩⟩⟩⟩⟩⟩⟩⟩⟩⟩⟩⟩⟩⟩⟩⟩⟩⟩⟩⟩⟩⟩⟩⟩⟩⟩⟩⟩⟩⟩⟩⟩⟩⟩⟩⟩⟩⟩⟩⟩⟩⟩⟩⟩⟩⟩⟩⟩⟩⟩⟩⟩⟩⟩⟩⟩⟩⟩⟩⟩⟩⟩⟩⟩⟩⟩⟩⟩⟩⟩⟩⟩⟩⟩⟩⟩⟩⟩⟩⟩⟩⟩⟩
theorem kept_tm:keptList.all (tmB Tryz.prog Gs)=true:=by kernel_rfl
theorem all_tm:((155::keptList).all (tmB prog Gs))=true:=by kernel_rfl
theorem kept_all:(List.range 224).all (fun i=>keptList.contains i||i==155||(match fs[i]? with|some fn=>fn.body.isNone|none=>true))=true:=by kernel_rfl
theorem ent_kept{P:Program}{f:FuncId}(h:Ent P fs f):f∈keptList\/f=155:=by
 obtain⟨fn',fn,h1,_,h3,_⟩:=h;have A4:f<224:=by rw[<-fs_size];exact(YF.1 h1).1
 have h4:=YL.1 kept_all f (YU.2 A4);simp only[h1,Bool.or_eq_true,List.contains_iff_mem,beq_iff_eq] at h4;rcases h4 with(h4|h4)|h4
 ·exact .inl h4
 ·exact .inr h4
 ·rw[Option.isNone_iff_eq_none] at h4;rw[h4] at h3;cases h3
theorem tm{f:FuncId}(h:f∈keptList):Tm Tryz.prog fs Gs f:=Z9r (YL.1 kept_tm f h) (kept_same f h)
theorem solo:Solo Tryz.prog fs Gs:=⟨fsOkS,fun f hf=>Z9r (YL.1 all_tm f (by rcases ent_kept hf with h|h<;>simp[h])) rfl⟩
section
variable (P:Program) (gs:Array Func) (n:TypeId) (w:World)
theorem wf_typeInfo:(typeInfo n).run (Z6 P gs) w=(typeInfo n).run P w:=by
 unfold typeInfo;simp[go_sem];cases P.info? n<;>rfl
theorem wf_sizeOf:(Go.sizeOf n).run (Z6 P gs) w=(Go.sizeOf n).run P w:=by
 unfold Go.sizeOf;simp[go_sem,wf_typeInfo]
theorem wf_underlying:(underlying n).run (Z6 P gs) w=(underlying n).run P w:=by
 unfold underlying;simp[go_sem];cases P.underlying n<;>rfl
theorem wf_isAgg:(isAgg n).run (Z6 P gs) w=(isAgg n).run P w:=by
 unfold isAgg;simp[go_sem,wf_underlying];congr 1;funext a w';cases a<;>rfl
theorem wf_zeroValue:(zeroValue n).run (Z6 P gs) w=(zeroValue n).run P w:=by
 unfold zeroValue;simp[go_sem,wf_typeInfo];congr 1;funext a w';cases a.zero<;>rfl
end
theorem Z7{P:Program}{f:FuncId}{fn:Func}(hf:P.funcs[f]? =some fn)(hn:(fn.name== "runtime.NumGoroutine")=false)(hb:fn.body.isNone=false)(args:Array Value)(w:World):(callFunc f args).run P w= .ok (.enter f args) w:=by
 unfold callFunc;simp only[Sem.run_bind,run_program,Result.andThen,hf,hn,hb,YR,if_false];rfl
@[simp] theorem toTables_eq:prog.toTables=Tryz.prog.toTables:=rfl
@[simp] theorem run_typeInfo (n:TypeId) (w:World):(typeInfo n).run prog w=(typeInfo n).run Tryz.prog w:=wf_typeInfo Tryz.prog fs n w
@[simp] theorem run_sizeOf (n:TypeId) (w:World):(Go.sizeOf n).run prog w=(Go.sizeOf n).run Tryz.prog w:=wf_sizeOf Tryz.prog fs n w
@[simp] theorem underlying_eq (n:TypeId):prog.underlying n=Tryz.prog.underlying n:=Z0J Tryz.prog fs n
@[simp] theorem run_underlying (n:TypeId) (w:World):(underlying n).run prog w=(underlying n).run Tryz.prog w:=wf_underlying Tryz.prog fs n w
@[simp] theorem run_isAgg (n:TypeId) (w:World):(isAgg n).run prog w=(isAgg n).run Tryz.prog w:=wf_isAgg Tryz.prog fs n w
@[simp] theorem run_zeroValue (n:TypeId) (w:World):(zeroValue n).run prog w=(zeroValue n).run Tryz.prog w:=wf_zeroValue Tryz.prog fs n w
@[simp] theorem func18:prog.funcs[18]? =some Tryz.f18:=by kernel_rfl
abbrev ntmps18:=Tryz.ntmps18
@[simp] theorem call18 (a w):(callFunc 18 a).run prog w= .ok (.enter 18 a) w:=Z7 func18 (by kernel_rfl) (by kernel_rfl) a w
@[simp] theorem func21:prog.funcs[21]? =some Tryz.f21:=by kernel_rfl
abbrev ntmps21:=Tryz.ntmps21
@[simp] theorem call21 (a w):(callFunc 21 a).run prog w= .ok (.enter 21 a) w:=Z7 func21 (by kernel_rfl) (by kernel_rfl) a w
@[simp] theorem func22:prog.funcs[22]? =some Tryz.f22:=by kernel_rfl
abbrev ntmps22:=Tryz.ntmps22
@[simp] theorem call22 (a w):(callFunc 22 a).run prog w= .ok (.enter 22 a) w:=Z7 func22 (by kernel_rfl) (by kernel_rfl) a w
@[simp] theorem func23:prog.funcs[23]? =some Tryz.f23:=by kernel_rfl
abbrev ntmps23:=Tryz.ntmps23
@[simp] theorem call23 (a w):(callFunc 23 a).run prog w= .ok (.enter 23 a) w:=Z7 func23 (by kernel_rfl) (by kernel_rfl) a w
@[simp] theorem func25:prog.funcs[25]? =some Tryz.f25:=by kernel_rfl
abbrev ntmps25:=Tryz.ntmps25
@[simp] theorem call25 (a w):(callFunc 25 a).run prog w= .ok (.enter 25 a) w:=Z7 func25 (by kernel_rfl) (by kernel_rfl) a w
@[simp] theorem func26:prog.funcs[26]? =some Tryz.f26:=by kernel_rfl
abbrev ntmps26:=Tryz.ntmps26
@[simp] theorem call26 (a w):(callFunc 26 a).run prog w= .ok (.enter 26 a) w:=Z7 func26 (by kernel_rfl) (by kernel_rfl) a w
@[simp] theorem func27:prog.funcs[27]? =some Tryz.f27:=by kernel_rfl
abbrev ntmps27:=Tryz.ntmps27
@[simp] theorem call27 (a w):(callFunc 27 a).run prog w= .ok (.enter 27 a) w:=Z7 func27 (by kernel_rfl) (by kernel_rfl) a w
@[simp] theorem func29:prog.funcs[29]? =some Tryz.f29:=by kernel_rfl
abbrev ntmps29:=Tryz.ntmps29
@[simp] theorem call29 (a w):(callFunc 29 a).run prog w= .ok (.enter 29 a) w:=Z7 func29 (by kernel_rfl) (by kernel_rfl) a w
@[simp] theorem func30:prog.funcs[30]? =some Tryz.f30:=by kernel_rfl
abbrev ntmps30:=Tryz.ntmps30
@[simp] theorem call30 (a w):(callFunc 30 a).run prog w= .ok (.enter 30 a) w:=Z7 func30 (by kernel_rfl) (by kernel_rfl) a w
@[simp] theorem func34:prog.funcs[34]? =some Tryz.f34:=by kernel_rfl
abbrev ntmps34:=Tryz.ntmps34
@[simp] theorem call34 (a w):(callFunc 34 a).run prog w= .ok (.enter 34 a) w:=Z7 func34 (by kernel_rfl) (by kernel_rfl) a w
@[simp] theorem func37:prog.funcs[37]? =some Tryz.f37:=by kernel_rfl
abbrev ntmps37:=Tryz.ntmps37
@[simp] theorem call37 (a w):(callFunc 37 a).run prog w= .ok (.enter 37 a) w:=Z7 func37 (by kernel_rfl) (by kernel_rfl) a w
@[simp] theorem func39:prog.funcs[39]? =some Tryz.f39:=by kernel_rfl
abbrev ntmps39:=Tryz.ntmps39
@[simp] theorem call39 (a w):(callFunc 39 a).run prog w= .ok (.enter 39 a) w:=Z7 func39 (by kernel_rfl) (by kernel_rfl) a w
@[simp] theorem func41:prog.funcs[41]? =some Tryz.f41:=by kernel_rfl
abbrev ntmps41:=Tryz.ntmps41
@[simp] theorem call41 (a w):(callFunc 41 a).run prog w= .ok (.enter 41 a) w:=Z7 func41 (by kernel_rfl) (by kernel_rfl) a w
@[simp] theorem func45:prog.funcs[45]? =some Tryz.f45:=by kernel_rfl
abbrev ntmps45:=Tryz.ntmps45
@[simp] theorem call45 (a w):(callFunc 45 a).run prog w= .ok (.enter 45 a) w:=Z7 func45 (by kernel_rfl) (by kernel_rfl) a w
@[simp] theorem func49:prog.funcs[49]? =some Tryz.f49:=by kernel_rfl
abbrev ntmps49:=Tryz.ntmps49
@[simp] theorem call49 (a w):(callFunc 49 a).run prog w= .ok (.enter 49 a) w:=Z7 func49 (by kernel_rfl) (by kernel_rfl) a w
@[simp] theorem func51:prog.funcs[51]? =some Tryz.f51:=by kernel_rfl
abbrev ntmps51:=Tryz.ntmps51
@[simp] theorem call51 (a w):(callFunc 51 a).run prog w= .ok (.enter 51 a) w:=Z7 func51 (by kernel_rfl) (by kernel_rfl) a w
@[simp] theorem func52:prog.funcs[52]? =some Tryz.f52:=by kernel_rfl
abbrev ntmps52:=Tryz.ntmps52
@[simp] theorem call52 (a w):(callFunc 52 a).run prog w= .ok (.enter 52 a) w:=Z7 func52 (by kernel_rfl) (by kernel_rfl) a w
@[simp] theorem func53:prog.funcs[53]? =some Tryz.f53:=by kernel_rfl
abbrev ntmps53:=Tryz.ntmps53
@[simp] theorem call53 (a w):(callFunc 53 a).run prog w= .ok (.enter 53 a) w:=Z7 func53 (by kernel_rfl) (by kernel_rfl) a w
@[simp] theorem func56:prog.funcs[56]? =some Tryz.f56:=by kernel_rfl
abbrev ntmps56:=Tryz.ntmps56
@[simp] theorem call56 (a w):(callFunc 56 a).run prog w= .ok (.enter 56 a) w:=Z7 func56 (by kernel_rfl) (by kernel_rfl) a w
@[simp] theorem func58:prog.funcs[58]? =some Tryz.f58:=by kernel_rfl
abbrev ntmps58:=Tryz.ntmps58
@[simp] theorem call58 (a w):(callFunc 58 a).run prog w= .ok (.enter 58 a) w:=Z7 func58 (by kernel_rfl) (by kernel_rfl) a w
@[simp] theorem func59:prog.funcs[59]? =some Tryz.f59:=by kernel_rfl
abbrev ntmps59:=Tryz.ntmps59
@[simp] theorem call59 (a w):(callFunc 59 a).run prog w= .ok (.enter 59 a) w:=Z7 func59 (by kernel_rfl) (by kernel_rfl) a w
@[simp] theorem func62:prog.funcs[62]? =some Tryz.f62:=by kernel_rfl
abbrev ntmps62:=Tryz.ntmps62
@[simp] theorem call62 (a w):(callFunc 62 a).run prog w= .ok (.enter 62 a) w:=Z7 func62 (by kernel_rfl) (by kernel_rfl) a w
@[simp] theorem func66:prog.funcs[66]? =some Tryz.f66:=by kernel_rfl
abbrev ntmps66:=Tryz.ntmps66
@[simp] theorem call66 (a w):(callFunc 66 a).run prog w= .ok (.enter 66 a) w:=Z7 func66 (by kernel_rfl) (by kernel_rfl) a w
@[simp] theorem func68:prog.funcs[68]? =some Tryz.f68:=by kernel_rfl
abbrev ntmps68:=Tryz.ntmps68
@[simp] theorem call68 (a w):(callFunc 68 a).run prog w= .ok (.enter 68 a) w:=Z7 func68 (by kernel_rfl) (by kernel_rfl) a w
@[simp] theorem func73:prog.funcs[73]? =some Tryz.f73:=by kernel_rfl
abbrev ntmps73:=Tryz.ntmps73
@[simp] theorem call73 (a w):(callFunc 73 a).run prog w= .ok (.enter 73 a) w:=Z7 func73 (by kernel_rfl) (by kernel_rfl) a w
@[simp] theorem func84:prog.funcs[84]? =some Tryz.f84:=by kernel_rfl
abbrev ntmps84:=Tryz.ntmps84
@[simp] theorem call84 (a w):(callFunc 84 a).run prog w= .ok (.enter 84 a) w:=Z7 func84 (by kernel_rfl) (by kernel_rfl) a w
@[simp] theorem func85:prog.funcs[85]? =some Tryz.f85:=by kernel_rfl
abbrev ntmps85:=Tryz.ntmps85
@[simp] theorem call85 (a w):(callFunc 85 a).run prog w= .ok (.enter 85 a) w:=Z7 func85 (by kernel_rfl) (by kernel_rfl) a w
@[simp] theorem func86:prog.funcs[86]? =some Tryz.f86:=by kernel_rfl
abbrev ntmps86:=Tryz.ntmps86
@[simp] theorem call86 (a w):(callFunc 86 a).run prog w= .ok (.enter 86 a) w:=Z7 func86 (by kernel_rfl) (by kernel_rfl) a w
@[simp] theorem func87:prog.funcs[87]? =some Tryz.f87:=by kernel_rfl
abbrev ntmps87:=Tryz.ntmps87
@[simp] theorem call87 (a w):(callFunc 87 a).run prog w= .ok (.enter 87 a) w:=Z7 func87 (by kernel_rfl) (by kernel_rfl) a w
@[simp] theorem func90:prog.funcs[90]? =some Tryz.f90:=by kernel_rfl
abbrev ntmps90:=Tryz.ntmps90
@[simp] theorem call90 (a w):(callFunc 90 a).run prog w= .ok (.enter 90 a) w:=Z7 func90 (by kernel_rfl) (by kernel_rfl) a w
@[simp] theorem func91:prog.funcs[91]? =some Tryz.f91:=by kernel_rfl
abbrev ntmps91:=Tryz.ntmps91
@[simp] theorem call91 (a w):(callFunc 91 a).run prog w= .ok (.enter 91 a) w:=Z7 func91 (by kernel_rfl) (by kernel_rfl) a w
@[simp] theorem func92:prog.funcs[92]? =some Tryz.f92:=by kernel_rfl
abbrev ntmps92:=Tryz.ntmps92
@[simp] theorem call92 (a w):(callFunc 92 a).run prog w= .ok (.enter 92 a) w:=Z7 func92 (by kernel_rfl) (by kernel_rfl) a w
@[simp] theorem func93:prog.funcs[93]? =some Tryz.f93:=by kernel_rfl
abbrev ntmps93:=Tryz.ntmps93
@[simp] theorem call93 (a w):(callFunc 93 a).run prog w= .ok (.enter 93 a) w:=Z7 func93 (by kernel_rfl) (by kernel_rfl) a w
@[simp] theorem func94:prog.funcs[94]? =some Tryz.f94:=by kernel_rfl
abbrev ntmps94:=Tryz.ntmps94
@[simp] theorem call94 (a w):(callFunc 94 a).run prog w= .ok (.enter 94 a) w:=Z7 func94 (by kernel_rfl) (by kernel_rfl) a w
@[simp] theorem func95:prog.funcs[95]? =some Tryz.f95:=by kernel_rfl
abbrev ntmps95:=Tryz.ntmps95
@[simp] theorem call95 (a w):(callFunc 95 a).run prog w= .ok (.enter 95 a) w:=Z7 func95 (by kernel_rfl) (by kernel_rfl) a w
@[simp] theorem func96:prog.funcs[96]? =some Tryz.f96:=by kernel_rfl
abbrev ntmps96:=Tryz.ntmps96
@[simp] theorem call96 (a w):(callFunc 96 a).run prog w= .ok (.enter 96 a) w:=Z7 func96 (by kernel_rfl) (by kernel_rfl) a w
@[simp] theorem func97:prog.funcs[97]? =some Tryz.f97:=by kernel_rfl
abbrev ntmps97:=Tryz.ntmps97
@[simp] theorem call97 (a w):(callFunc 97 a).run prog w= .ok (.enter 97 a) w:=Z7 func97 (by kernel_rfl) (by kernel_rfl) a w
@[simp] theorem func100:prog.funcs[100]? =some Tryz.f100:=by kernel_rfl
abbrev ntmps100:=Tryz.ntmps100
@[simp] theorem call100 (a w):(callFunc 100 a).run prog w= .ok (.enter 100 a) w:=Z7 func100 (by kernel_rfl) (by kernel_rfl) a w
@[simp] theorem func101:prog.funcs[101]? =some Tryz.f101:=by kernel_rfl
abbrev ntmps101:=Tryz.ntmps101
@[simp] theorem call101 (a w):(callFunc 101 a).run prog w= .ok (.enter 101 a) w:=Z7 func101 (by kernel_rfl) (by kernel_rfl) a w
@[simp] theorem func103:prog.funcs[103]? =some Tryz.f103:=by kernel_rfl
abbrev ntmps103:=Tryz.ntmps103
@[simp] theorem call103 (a w):(callFunc 103 a).run prog w= .ok (.enter 103 a) w:=Z7 func103 (by kernel_rfl) (by kernel_rfl) a w
@[simp] theorem func104:prog.funcs[104]? =some Tryz.f104:=by kernel_rfl
abbrev ntmps104:=Tryz.ntmps104
@[simp] theorem call104 (a w):(callFunc 104 a).run prog w= .ok (.enter 104 a) w:=Z7 func104 (by kernel_rfl) (by kernel_rfl) a w
@[simp] theorem func105:prog.funcs[105]? =some Tryz.f105:=by kernel_rfl
abbrev ntmps105:=Tryz.ntmps105
@[simp] theorem call105 (a w):(callFunc 105 a).run prog w= .ok (.enter 105 a) w:=Z7 func105 (by kernel_rfl) (by kernel_rfl) a w
@[simp] theorem func106:prog.funcs[106]? =some Tryz.f106:=by kernel_rfl
abbrev ntmps106:=Tryz.ntmps106
@[simp] theorem call106 (a w):(callFunc 106 a).run prog w= .ok (.enter 106 a) w:=Z7 func106 (by kernel_rfl) (by kernel_rfl) a w
@[simp] theorem func107:prog.funcs[107]? =some Tryz.f107:=by kernel_rfl
abbrev ntmps107:=Tryz.ntmps107
@[simp] theorem call107 (a w):(callFunc 107 a).run prog w= .ok (.enter 107 a) w:=Z7 func107 (by kernel_rfl) (by kernel_rfl) a w
@[simp] theorem func108:prog.funcs[108]? =some Tryz.f108:=by kernel_rfl
abbrev ntmps108:=Tryz.ntmps108
@[simp] theorem call108 (a w):(callFunc 108 a).run prog w= .ok (.enter 108 a) w:=Z7 func108 (by kernel_rfl) (by kernel_rfl) a w
@[simp] theorem func109:prog.funcs[109]? =some Tryz.f109:=by kernel_rfl
abbrev ntmps109:=Tryz.ntmps109
@[simp] theorem call109 (a w):(callFunc 109 a).run prog w= .ok (.enter 109 a) w:=Z7 func109 (by kernel_rfl) (by kernel_rfl) a w
@[simp] theorem func110:prog.funcs[110]? =some Tryz.f110:=by kernel_rfl
abbrev ntmps110:=Tryz.ntmps110
@[simp] theorem call110 (a w):(callFunc 110 a).run prog w= .ok (.enter 110 a) w:=Z7 func110 (by kernel_rfl) (by kernel_rfl) a w
@[simp] theorem func111:prog.funcs[111]? =some Tryz.f111:=by kernel_rfl
abbrev ntmps111:=Tryz.ntmps111
@[simp] theorem call111 (a w):(callFunc 111 a).run prog w= .ok (.enter 111 a) w:=Z7 func111 (by kernel_rfl) (by kernel_rfl) a w
@[simp] theorem func112:prog.funcs[112]? =some Tryz.f112:=by kernel_rfl
abbrev ntmps112:=Tryz.ntmps112
@[simp] theorem call112 (a w):(callFunc 112 a).run prog w= .ok (.enter 112 a) w:=Z7 func112 (by kernel_rfl) (by kernel_rfl) a w
@[simp] theorem func113:prog.funcs[113]? =some Tryz.f113:=by kernel_rfl
abbrev ntmps113:=Tryz.ntmps113
@[simp] theorem call113 (a w):(callFunc 113 a).run prog w= .ok (.enter 113 a) w:=Z7 func113 (by kernel_rfl) (by kernel_rfl) a w
@[simp] theorem func114:prog.funcs[114]? =some Tryz.f114:=by kernel_rfl
abbrev ntmps114:=Tryz.ntmps114
@[simp] theorem call114 (a w):(callFunc 114 a).run prog w= .ok (.enter 114 a) w:=Z7 func114 (by kernel_rfl) (by kernel_rfl) a w
@[simp] theorem func115:prog.funcs[115]? =some Tryz.f115:=by kernel_rfl
abbrev ntmps115:=Tryz.ntmps115
@[simp] theorem call115 (a w):(callFunc 115 a).run prog w= .ok (.enter 115 a) w:=Z7 func115 (by kernel_rfl) (by kernel_rfl) a w
@[simp] theorem func121:prog.funcs[121]? =some Tryz.f121:=by kernel_rfl
abbrev ntmps121:=Tryz.ntmps121
@[simp] theorem call121 (a w):(callFunc 121 a).run prog w= .ok (.enter 121 a) w:=Z7 func121 (by kernel_rfl) (by kernel_rfl) a w
@[simp] theorem func122:prog.funcs[122]? =some Tryz.f122:=by kernel_rfl
abbrev ntmps122:=Tryz.ntmps122
@[simp] theorem call122 (a w):(callFunc 122 a).run prog w= .ok (.enter 122 a) w:=Z7 func122 (by kernel_rfl) (by kernel_rfl) a w
@[simp] theorem func123:prog.funcs[123]? =some Tryz.f123:=by kernel_rfl
abbrev ntmps123:=Tryz.ntmps123
@[simp] theorem call123 (a w):(callFunc 123 a).run prog w= .ok (.enter 123 a) w:=Z7 func123 (by kernel_rfl) (by kernel_rfl) a w
@[simp] theorem func124:prog.funcs[124]? =some Tryz.f124:=by kernel_rfl
abbrev ntmps124:=Tryz.ntmps124
@[simp] theorem call124 (a w):(callFunc 124 a).run prog w= .ok (.enter 124 a) w:=Z7 func124 (by kernel_rfl) (by kernel_rfl) a w
@[simp] theorem func125:prog.funcs[125]? =some Tryz.f125:=by kernel_rfl
abbrev ntmps125:=Tryz.ntmps125
@[simp] theorem call125 (a w):(callFunc 125 a).run prog w= .ok (.enter 125 a) w:=Z7 func125 (by kernel_rfl) (by kernel_rfl) a w
@[simp] theorem func126:prog.funcs[126]? =some Tryz.f126:=by kernel_rfl
abbrev ntmps126:=Tryz.ntmps126
@[simp] theorem call126 (a w):(callFunc 126 a).run prog w= .ok (.enter 126 a) w:=Z7 func126 (by kernel_rfl) (by kernel_rfl) a w
@[simp] theorem func128:prog.funcs[128]? =some Tryz.f128:=by kernel_rfl
abbrev ntmps128:=Tryz.ntmps128
@[simp] theorem call128 (a w):(callFunc 128 a).run prog w= .ok (.enter 128 a) w:=Z7 func128 (by kernel_rfl) (by kernel_rfl) a w
@[simp] theorem func129:prog.funcs[129]? =some Tryz.f129:=by kernel_rfl
abbrev ntmps129:=Tryz.ntmps129
@[simp] theorem call129 (a w):(callFunc 129 a).run prog w= .ok (.enter 129 a) w:=Z7 func129 (by kernel_rfl) (by kernel_rfl) a w
@[simp] theorem func130:prog.funcs[130]? =some Tryz.f130:=by kernel_rfl
abbrev ntmps130:=Tryz.ntmps130
@[simp] theorem call130 (a w):(callFunc 130 a).run prog w= .ok (.enter 130 a) w:=Z7 func130 (by kernel_rfl) (by kernel_rfl) a w
@[simp] theorem func135:prog.funcs[135]? =some Tryz.f135:=by kernel_rfl
abbrev ntmps135:=Tryz.ntmps135
@[simp] theorem call135 (a w):(callFunc 135 a).run prog w= .ok (.enter 135 a) w:=Z7 func135 (by kernel_rfl) (by kernel_rfl) a w
@[simp] theorem func136:prog.funcs[136]? =some Tryz.f136:=by kernel_rfl
abbrev ntmps136:=Tryz.ntmps136
@[simp] theorem call136 (a w):(callFunc 136 a).run prog w= .ok (.enter 136 a) w:=Z7 func136 (by kernel_rfl) (by kernel_rfl) a w
@[simp] theorem func137:prog.funcs[137]? =some Tryz.f137:=by kernel_rfl
abbrev ntmps137:=Tryz.ntmps137
@[simp] theorem call137 (a w):(callFunc 137 a).run prog w= .ok (.enter 137 a) w:=Z7 func137 (by kernel_rfl) (by kernel_rfl) a w
@[simp] theorem func138:prog.funcs[138]? =some Tryz.f138:=by kernel_rfl
abbrev ntmps138:=Tryz.ntmps138
@[simp] theorem call138 (a w):(callFunc 138 a).run prog w= .ok (.enter 138 a) w:=Z7 func138 (by kernel_rfl) (by kernel_rfl) a w
@[simp] theorem func139:prog.funcs[139]? =some Tryz.f139:=by kernel_rfl
abbrev ntmps139:=Tryz.ntmps139
@[simp] theorem call139 (a w):(callFunc 139 a).run prog w= .ok (.enter 139 a) w:=Z7 func139 (by kernel_rfl) (by kernel_rfl) a w
@[simp] theorem func140:prog.funcs[140]? =some Tryz.f140:=by kernel_rfl
abbrev ntmps140:=Tryz.ntmps140
@[simp] theorem call140 (a w):(callFunc 140 a).run prog w= .ok (.enter 140 a) w:=Z7 func140 (by kernel_rfl) (by kernel_rfl) a w
@[simp] theorem func141:prog.funcs[141]? =some Tryz.f141:=by kernel_rfl
abbrev ntmps141:=Tryz.ntmps141
@[simp] theorem call141 (a w):(callFunc 141 a).run prog w= .ok (.enter 141 a) w:=Z7 func141 (by kernel_rfl) (by kernel_rfl) a w
@[simp] theorem func142:prog.funcs[142]? =some Tryz.f142:=by kernel_rfl
abbrev ntmps142:=Tryz.ntmps142
@[simp] theorem call142 (a w):(callFunc 142 a).run prog w= .ok (.enter 142 a) w:=Z7 func142 (by kernel_rfl) (by kernel_rfl) a w
@[simp] theorem func143:prog.funcs[143]? =some Tryz.f143:=by kernel_rfl
abbrev ntmps143:=Tryz.ntmps143
@[simp] theorem call143 (a w):(callFunc 143 a).run prog w= .ok (.enter 143 a) w:=Z7 func143 (by kernel_rfl) (by kernel_rfl) a w
@[simp] theorem func145:prog.funcs[145]? =some Tryz.f145:=by kernel_rfl
abbrev ntmps145:=Tryz.ntmps145
@[simp] theorem call145 (a w):(callFunc 145 a).run prog w= .ok (.enter 145 a) w:=Z7 func145 (by kernel_rfl) (by kernel_rfl) a w
@[simp] theorem func146:prog.funcs[146]? =some Tryz.f146:=by kernel_rfl
abbrev ntmps146:=Tryz.ntmps146
@[simp] theorem call146 (a w):(callFunc 146 a).run prog w= .ok (.enter 146 a) w:=Z7 func146 (by kernel_rfl) (by kernel_rfl) a w
@[simp] theorem func148:prog.funcs[148]? =some Tryz.f148:=by kernel_rfl
abbrev ntmps148:=Tryz.ntmps148
@[simp] theorem call148 (a w):(callFunc 148 a).run prog w= .ok (.enter 148 a) w:=Z7 func148 (by kernel_rfl) (by kernel_rfl) a w
@[simp] theorem func149:prog.funcs[149]? =some Tryz.f149:=by kernel_rfl
abbrev ntmps149:=Tryz.ntmps149
@[simp] theorem call149 (a w):(callFunc 149 a).run prog w= .ok (.enter 149 a) w:=Z7 func149 (by kernel_rfl) (by kernel_rfl) a w
@[simp] theorem func150:prog.funcs[150]? =some Tryz.f150:=by kernel_rfl
abbrev ntmps150:=Tryz.ntmps150
@[simp] theorem call150 (a w):(callFunc 150 a).run prog w= .ok (.enter 150 a) w:=Z7 func150 (by kernel_rfl) (by kernel_rfl) a w
@[simp] theorem func151:prog.funcs[151]? =some Tryz.f151:=by kernel_rfl
abbrev ntmps151:=Tryz.ntmps151
@[simp] theorem call151 (a w):(callFunc 151 a).run prog w= .ok (.enter 151 a) w:=Z7 func151 (by kernel_rfl) (by kernel_rfl) a w
@[simp] theorem func152:prog.funcs[152]? =some Tryz.f152:=by kernel_rfl
abbrev ntmps152:=Tryz.ntmps152
@[simp] theorem call152 (a w):(callFunc 152 a).run prog w= .ok (.enter 152 a) w:=Z7 func152 (by kernel_rfl) (by kernel_rfl) a w
@[simp] theorem func153:prog.funcs[153]? =some Tryz.f153:=by kernel_rfl
abbrev ntmps153:=Tryz.ntmps153
@[simp] theorem call153 (a w):(callFunc 153 a).run prog w= .ok (.enter 153 a) w:=Z7 func153 (by kernel_rfl) (by kernel_rfl) a w
@[simp] theorem func156:prog.funcs[156]? =some Tryz.f156:=by kernel_rfl
abbrev ntmps156:=Tryz.ntmps156
@[simp] theorem call156 (a w):(callFunc 156 a).run prog w= .ok (.enter 156 a) w:=Z7 func156 (by kernel_rfl) (by kernel_rfl) a w
@[simp] theorem func157:prog.funcs[157]? =some Tryz.f157:=by kernel_rfl
abbrev ntmps157:=Tryz.ntmps157
@[simp] theorem call157 (a w):(callFunc 157 a).run prog w= .ok (.enter 157 a) w:=Z7 func157 (by kernel_rfl) (by kernel_rfl) a w
@[simp] theorem func158:prog.funcs[158]? =some Tryz.f158:=by kernel_rfl
abbrev ntmps158:=Tryz.ntmps158
@[simp] theorem call158 (a w):(callFunc 158 a).run prog w= .ok (.enter 158 a) w:=Z7 func158 (by kernel_rfl) (by kernel_rfl) a w
@[simp] theorem func159:prog.funcs[159]? =some Tryz.f159:=by kernel_rfl
abbrev ntmps159:=Tryz.ntmps159
@[simp] theorem call159 (a w):(callFunc 159 a).run prog w= .ok (.enter 159 a) w:=Z7 func159 (by kernel_rfl) (by kernel_rfl) a w
@[simp] theorem func160:prog.funcs[160]? =some Tryz.f160:=by kernel_rfl
abbrev ntmps160:=Tryz.ntmps160
@[simp] theorem call160 (a w):(callFunc 160 a).run prog w= .ok (.enter 160 a) w:=Z7 func160 (by kernel_rfl) (by kernel_rfl) a w
@[simp] theorem func164:prog.funcs[164]? =some Tryz.f164:=by kernel_rfl
abbrev ntmps164:=Tryz.ntmps164
@[simp] theorem call164 (a w):(callFunc 164 a).run prog w= .ok (.enter 164 a) w:=Z7 func164 (by kernel_rfl) (by kernel_rfl) a w
@[simp] theorem func167:prog.funcs[167]? =some Tryz.f167:=by kernel_rfl
abbrev ntmps167:=Tryz.ntmps167
@[simp] theorem call167 (a w):(callFunc 167 a).run prog w= .ok (.enter 167 a) w:=Z7 func167 (by kernel_rfl) (by kernel_rfl) a w
@[simp] theorem func168:prog.funcs[168]? =some Tryz.f168:=by kernel_rfl
abbrev ntmps168:=Tryz.ntmps168
@[simp] theorem call168 (a w):(callFunc 168 a).run prog w= .ok (.enter 168 a) w:=Z7 func168 (by kernel_rfl) (by kernel_rfl) a w
@[simp] theorem func169:prog.funcs[169]? =some Tryz.f169:=by kernel_rfl
abbrev ntmps169:=Tryz.ntmps169
@[simp] theorem call169 (a w):(callFunc 169 a).run prog w= .ok (.enter 169 a) w:=Z7 func169 (by kernel_rfl) (by kernel_rfl) a w
@[simp] theorem func189:prog.funcs[189]? =some Tryz.f189:=by kernel_rfl
abbrev ntmps189:=Tryz.ntmps189
@[simp] theorem call189 (a w):(callFunc 189 a).run prog w= .ok (.enter 189 a) w:=Z7 func189 (by kernel_rfl) (by kernel_rfl) a w
@[simp] theorem func211:prog.funcs[211]? =some Tryz.f211:=by kernel_rfl
abbrev ntmps211:=Tryz.ntmps211
@[simp] theorem call211 (a w):(callFunc 211 a).run prog w= .ok (.enter 211 a) w:=Z7 func211 (by kernel_rfl) (by kernel_rfl) a w
@[simp] theorem func212:prog.funcs[212]? =some Tryz.f212:=by kernel_rfl
abbrev ntmps212:=Tryz.ntmps212
@[simp] theorem call212 (a w):(callFunc 212 a).run prog w= .ok (.enter 212 a) w:=Z7 func212 (by kernel_rfl) (by kernel_rfl) a w
@[simp] theorem func213:prog.funcs[213]? =some Tryz.f213:=by kernel_rfl
abbrev ntmps213:=Tryz.ntmps213
@[simp] theorem call213 (a w):(callFunc 213 a).run prog w= .ok (.enter 213 a) w:=Z7 func213 (by kernel_rfl) (by kernel_rfl) a w
@[simp] theorem func214:prog.funcs[214]? =some Tryz.f214:=by kernel_rfl
abbrev ntmps214:=Tryz.ntmps214
@[simp] theorem call214 (a w):(callFunc 214 a).run prog w= .ok (.enter 214 a) w:=Z7 func214 (by kernel_rfl) (by kernel_rfl) a w
@[simp] theorem func215:prog.funcs[215]? =some Tryz.f215:=by kernel_rfl
abbrev ntmps215:=Tryz.ntmps215
@[simp] theorem call215 (a w):(callFunc 215 a).run prog w= .ok (.enter 215 a) w:=Z7 func215 (by kernel_rfl) (by kernel_rfl) a w
@[simp] theorem func216:prog.funcs[216]? =some Tryz.f216:=by kernel_rfl
abbrev ntmps216:=Tryz.ntmps216
@[simp] theorem call216 (a w):(callFunc 216 a).run prog w= .ok (.enter 216 a) w:=Z7 func216 (by kernel_rfl) (by kernel_rfl) a w
@[simp] theorem func155:prog.funcs[155]? =some kf:=by kernel_rfl
@[simp] theorem ntmps155:kf.ntmps=34:=by kernel_rfl
@[simp] theorem call155 (args:Array Value) (w:World):(callFunc 155 args).run prog w= .ok (.enter 155 args) w:=Z7 func155 (by kernel_rfl) (by kernel_rfl) args w
end Go.Proofs.Tryq
