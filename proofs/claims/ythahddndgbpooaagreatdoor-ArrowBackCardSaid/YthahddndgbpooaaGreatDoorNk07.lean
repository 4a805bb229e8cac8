import Derived.Test.YthahddndgbpooaaGreatDoorNkA
import Derived.Test.YthahddndgbpooaaGreatDoorNk06
import Derived.Test.YthahddndgbpooaaGreatDoorProg
import Derived.WalkKit
set_option linter.all false
set_option maxRecDepth 100000
open Go Go.Nk
variable {fn g:Func}{f:FuncId}{i:Nat}
namespace Go.Proofs.Tryq
abbrev theBan:Ban:=⟨λf=>f==114,λ_=>1,true⟩
attribute [local instance] theBan
def stub:Func:={name:= "",origin:= "",params:= #[],resultTypes:= #[],nfree:=0,ntmps:=0,results:= #[],body:=none,norace:=false,tmpNames:= #[]}
def op(d:Option Tmp)(o:Op):Oper:={dst:=d,op:=o,type:=0,pos:= "",after:= #[],guard:=none}
def kRule:Array Oper:= #[
 op (some 9) (.build 136 #[(0,.tmp 0)]),
 op (some 1) (.field 132 (.tmp 0) 0),op (some 2) (.field 31 (.tmp 1) 0),op (some 3) (.field 31 (.tmp 1) 1),
 op (some 4) (.field 28 (.tmp 2) 0),op (some 5) (.field 28 (.tmp 2) 1),op (some 6) (.field 28 (.tmp 2) 2),op (some 7) (.field 28 (.tmp 2) 3),
 op (some 8) (.binOp .leq 3 (.tmp 4) (.const (.int .i64 0)) 3),op (some 8) (.binOp .leq 3 (.tmp 5) (.const (.int .i64 0)) 3),op (some 8) (.binOp .leq 3 (.tmp 6) (.const (.int .i64 0)) 3),op (some 8) (.binOp .leq 3 (.tmp 7) (.const (.int .i64 0)) 3),
 op (some 10) (.call {callee:= .builtin .len,args:= #[.tmp 3],argTypes:= #[29]}),op (some 11) (.binOp .leq 3 (.tmp 10) (.const (.int .i64 8)) 3),op (some 12) (.move (.const (.int .i64 0)))]
def kShot:Array Oper:= #[
 op (some 14) (.indexAddr 29 (.tmp 3) (.tmp 12)),op (some 15) (.fieldAddr 75 (.tmp 14) 0),op (some 16) (.load 3 (.tmp 15)),
 op (some 17) (.fieldAddr 75 (.tmp 14) 1),op (some 18) (.fieldAddr 49 (.tmp 17) 0),op (some 19) (.load 3 (.tmp 18)),op (some 20) (.fieldAddr 49 (.tmp 17) 1),op (some 21) (.load 3 (.tmp 20)),
 op (some 22) (.fieldAddr 75 (.tmp 14) 2),op (some 23) (.load 3 (.tmp 22)),op (some 24) (.fieldAddr 75 (.tmp 14) 3),op (some 25) (.load 3 (.tmp 24)),
 op (some 26) (.binOp .leq 3 (.tmp 19) (.const (.int .i64 0)) 3),op (some 26) (.binOp .leq 3 (.tmp 21) (.const (.int .i64 0)) 3),op (some 26) (.binOp .leq 3 (.tmp 23) (.const (.int .i64 0)) 3),op (some 26) (.binOp .leq 3 (.tmp 25) (.const (.int .i64 0)) 3),
 op (some 28) (.binOp .leq 3 (.const (.int .i64 0)) (.tmp 16) 3),op (some 29) (.binOp .leq 3 (.tmp 16) (.const (.int .i64 90)) 3)]
def kNext:Array Oper:= #[op (some 30) (.binOp .add 3 (.tmp 12) (.const (.int .i64 1)) 3),op (some 12) (.move (.tmp 30))]
def kTest:Array Oper:= #[op (some 13) (.binOp .lss 3 (.tmp 12) (.tmp 10) 3)]
def kCheck:Code:= .seq (.region 1 kTest false) (.seq (.cond (.tmp 13) .skip (.exit 0)) (.seq (.region 2 kShot false) (.seq (.cond (.tmp 28) .skip (.exit 9)) (.seq (.cond (.tmp 29) .skip (.exit 9)) (.region 3 kNext false)))))
def kMake:Array Oper:= #[op (some 31) (.makeSlice 134 (.tmp 10) (.tmp 10)),op (some 12) (.move (.const (.int .i64 0)))]
def kOne:Array Oper:= #[op (some 32) (.call {callee:= .value (.func 141),args:= #[.tmp 0,.tmp 12],argTypes:= #[132,3]}),op (some 33) (.indexAddr 134 (.tmp 31) (.tmp 12)),op none (.store 188 (.tmp 33) (.tmp 32))]
def kBuild:Code:= .seq (.region 5 kTest false) (.seq (.cond (.tmp 13) .skip (.exit 1)) (.seq (.region 6 kOne false) (.region 7 kNext false)))
def kBody:Code:= .seq (.region 0 kRule false) (.seq (.cond (.tmp 11) .skip (.exit 9)) (.seq (.block 0 (.loop kCheck)) (.seq (.region 4 kMake false) (.seq (.block 1 (.loop kBuild)) .ret))))
def kf:Func:={name:= "",origin:= "",params:= #[132],resultTypes:= #[134],nfree:=0,ntmps:=34,results:= #[.tmp 31],body:=some kBody,norace:=false,tmpNames:= #[]}
def keptList:List Nat:=[5,6,13,17,18,19,20,21,22,23,24,25,26,27,28,29,30,31,32,33,34,35,36,43,52,53,54,55,56,57,58,59,60,61,62,63,64,65,66,67,68,69,70,71,72,73,74,75,76,77,78,79,82,83,97,98,99,100,101,102,103,104,105,106,107,108,109,110,111,112,113,115,116,117,118,119,137,141,144,145,146,147,180,181,182,279,280,281,282,283,284]
noncomputable def fs:Array Func:=Tryz.prog.funcs.mapIdx λi f=>if keptList.contains i then f else if i==114 then kf else stub
def Gs:Nat->Bool:=λg=>decide (g<7)
theorem kept_same(i)(hi:i∈keptList):fs[i]? =Tryz.prog.funcs[i]? :=by
 unfold fs;rw[Array.getElem?_mapIdx];cases Tryz.prog.funcs[i]? with
 |none=>rfl
 |some f=>simp only[XI,VH.2 hi,XQ]
class Tw where
 fs:Array Func
 same:∀i∈keptList,fs[i]? =Tryz.prog.funcs[i]?
noncomputable def gp[Tw]:Program:=Z6 Tryz.prog Tw.fs
noncomputable instance (priority:=low) k2:Tw:=⟨fs,kept_same⟩
noncomputable abbrev prog:Program:=gp
theorem Zrw{f:Nat}(h:fs[f]? =some g):f∈keptList/\Tryz.prog.funcs[f]? =some g\/f=114/\g=kf\/g=stub:=by
 unfold fs at h;rw[Array.getElem?_mapIdx] at h;cases hf:Tryz.prog.funcs[f]? with
 |none=>rw[hf] at h;cases h
 |some g0=>
  rw[hf] at h;simp only[XI,XJ] at h;split at h
  ·rename_i hk;exact .inl ⟨VH.1 hk,by rw[h]⟩
  ·split at h
   ·rename_i _ hk;exact .inr (.inl ⟨eq_of_beq hk,h.symm⟩)
   ·exact .inr (.inr h.symm)
theorem fs114:fs[114]? =some kf:=by unfold fs;rw[Array.getElem?_mapIdx];kernel_rfl
theorem fs_size:fs.size=299:=by unfold fs;rw[Array.size_mapIdx];kernel_rfl
def okG(f:Func):Bool:= !(f.name== "runtime.NumGoroutine")&&f.body.isSome
noncomputable def okF(n:Nat):Bool:=match Tryz.prog.funcs[n]? with
 |some f=>okG f
 |none=>false
theorem okF_all:keptList.all okF=true:=by kernel_rfl
theorem Zrv{f:Nat}(h:f∈keptList)(hg:Tryz.prog.funcs[f]? =some g):(g.name== "runtime.NumGoroutine")=false/\g.body.isSome=true:=by
 have h1:=YL.1 okF_all f h;unfold okF at h1;rw[hg] at h1;simpa[okG] using h1
theorem Z3v{P:Program}(hk:∀f∈keptList,P.funcs[f]? =Tryz.prog.funcs[f]?){g:Func}(h1:P.funcs[114]? =some g)(h2:okG g=true)(hT:P.info? 1000000000=none):Z3T P fs:=by
 refine⟨λf fn' hf=> ?_,hT⟩;rcases Zrw hf with⟨h3,h4⟩|⟨rfl,rfl⟩|rfl
 ·have h5:=Zrv h3 h4;exact .inr ⟨fn',fn',hf,(hk f h3).trans h4,h5.2,h5.2,h5.1,h5.1⟩
 ·have h5:(g.name== "runtime.NumGoroutine")=false/\g.body.isSome=true:=by simpa[okG] using h2
  exact .inr ⟨kf,g,hf,h1,rfl,h5.2,by kernel_rfl,h5.1⟩
 ·exact .inl (by kernel_rfl)
theorem fsOk:Z3T Tryz.prog fs:=Z3v (λ_ _=>rfl) Tryz.func114 (by kernel_rfl) (by kernel_rfl)
theorem prog_fs:prog.funcs=fs:=by kernel_rfl
theorem fsOkS:Z3T prog fs:=Z3v (λf h=>by rw[prog_fs];exact kept_same f h) (by rw[prog_fs];exact fs114) (by kernel_rfl) (by kernel_rfl)
def tmB(P:Program)(Gs:Nat->Bool)(i:Nat):Bool:=match P.funcs[i]? with
 |some fn=>(match fn.body with|some c=>Zn P Gs c|none=>false)
 |none=>false
theorem Z9r{P:Program}{fs:Array Func}{Gs:Nat->Bool}(h:tmB P Gs i=true)(hs:fs[i]? =P.funcs[i]?):Tm P fs Gs i:=by
 unfold tmB at h;split at h
 ·rename_i fn hfn;split at h
  ·rename_i c hc;exact⟨fn,c,hs.trans hfn,hfn,hc,h⟩
  ·cases h
 ·cases h
theorem kept_tm:keptList.all (tmB Tryz.prog Gs)=true:=by kernel_rfl
noncomputable def tmC(i:Nat):Bool:=match Tryz.prog.funcs[i]? with
 |some fn=>(match fn.body with|some c=>Zn prog Gs c|none=>false)
 |none=>false
theorem all_tm:keptList.all tmC=true:=by kernel_rfl
theorem kf_tm:Zn prog Gs kBody=true:=by kernel_rfl
theorem ent_kept{P:Program}(h:Ent P fs f):f∈keptList\/f=114:=by
 obtain⟨fn',fn,h1,_,h3,_⟩:=h;rcases Zrw h1 with h|h|rfl
 ·exact .inl h.1
 ·exact .inr h.1
 ·cases h3
theorem tm(h:f∈keptList):Tm Tryz.prog fs Gs f:=Z9r (YL.1 kept_tm f h) (kept_same f h)
theorem solo:Solo Tryz.prog fs Gs:=⟨fsOkS,λf hf=>by
 refine Z9r (P:=prog) ?_ (by rw[prog_fs]);unfold tmB;rw[prog_fs];rcases ent_kept hf with h|rfl
 ·have h1:=YL.1 all_tm f h;rw[kept_same f h];exact h1
 ·rw[fs114];exact kf_tm⟩
section
variable (P:Program)(gs:Array Func)(n:TypeId)(w:World)
theorem wf_typeInfo:(typeInfo n).run (Z6 P gs) w=(typeInfo n).run P w:=by
 unfold typeInfo;simp[go_sem];cases P.info? n<;>rfl
theorem wf_sizeOf:(Go.sizeOf n).run (Z6 P gs) w=(Go.sizeOf n).run P w:=by
 unfold Go.sizeOf;simp[go_sem,wf_typeInfo]
theorem wf_underlying:(underlying n).run (Z6 P gs) w=(underlying n).run P w:=by
 unfold underlying;simp[go_sem];cases P.underlying n<;>rfl
theorem wf_isAgg:(isAgg n).run (Z6 P gs) w=(isAgg n).run P w:=by
 unfold isAgg;simp[go_sem,wf_underlying];congr 1;funext a w';cases a<;>rfl
theorem wf_zeroValue:(zeroValue n).run (Z6 P gs) w=(zeroValue n).run P w:=by
 unfold zeroValue;simp[go_sem,wf_typeInfo];congr 1;funext a w';cases a.zero<;>rfl
end
theorem Z7{P:Program}(hf:P.funcs[f]? =some fn)(hn:(fn.name== "runtime.NumGoroutine")=false)(hb:fn.body.isNone=false)(args:Array Value)(w:World):(callFunc f args).run P w= .ok (.enter f args) w:=by
 unfold callFunc;simp only[UM,run_program,Result.andThen,hf,hn,hb,YR,XZ];rfl
section
variable [Tw]
@[simp] theorem toTables_eq:gp.toTables=Tryz.prog.toTables:=rfl
@[simp] theorem run_typeInfo (n:TypeId) (w:World):(typeInfo n).run gp w=(typeInfo n).run Tryz.prog w:=wf_typeInfo Tryz.prog Tw.fs n w
@[simp] theorem run_sizeOf (n:TypeId) (w:World):(Go.sizeOf n).run gp w=(Go.sizeOf n).run Tryz.prog w:=wf_sizeOf Tryz.prog Tw.fs n w
@[simp] theorem underlying_eq (n:TypeId):gp.underlying n=Tryz.prog.underlying n:=Z0J Tryz.prog Tw.fs n
@[simp] theorem run_underlying (n:TypeId) (w:World):(underlying n).run gp w=(underlying n).run Tryz.prog w:=wf_underlying Tryz.prog Tw.fs n w
@[simp] theorem run_isAgg (n:TypeId) (w:World):(isAgg n).run gp w=(isAgg n).run Tryz.prog w:=wf_isAgg Tryz.prog Tw.fs n w
@[simp] theorem run_zeroValue (n:TypeId) (w:World):(zeroValue n).run gp w=(zeroValue n).run Tryz.prog w:=wf_zeroValue Tryz.prog Tw.fs n w
theorem ZV{n:Nat}(h:keptList.contains n=true)(h2:Tryz.prog.funcs[n]? =some fn):gp.funcs[n]? =some fn:=(Tw.same n (VH.1 h)).trans h2
class Kt(n:Nat):Prop where
 h:keptList.contains n=true
theorem fk{n:Nat}{f:Func}[k:Kt n](h:Tryz.prog.funcs[n]? =some f):gp.funcs[n]? =some f:=(Tw.same n (VH.1 k.h)).trans h
@[simp] theorem Zrr (n:Nat) [k:Kt n] (a w):(callFunc n a).run gp w= .ok (.enter n a) w:=by
  have hm:=VH.1 k.h;cases hf:Tryz.prog.funcs[n]? with
  |none=>
   have h1:=YL.1 okF_all n hm;unfold okF at h1;rw[hf] at h1;cases h1
  |some f=>
   have h:=Zrv hm hf;exact Z7 (fk hf) h.1 (by rw[Option.isNone_eq_false_iff];exact h.2) a w
instance :Kt 5:=⟨rfl⟩
instance :Kt 6:=⟨rfl⟩
instance :Kt 13:=⟨rfl⟩
instance :Kt 17:=⟨rfl⟩
instance :Kt 18:=⟨rfl⟩
instance :Kt 19:=⟨rfl⟩
instance :Kt 20:=⟨rfl⟩
instance :Kt 21:=⟨rfl⟩
instance :Kt 22:=⟨rfl⟩
instance :Kt 23:=⟨rfl⟩
instance :Kt 24:=⟨rfl⟩
instance :Kt 25:=⟨rfl⟩
instance :Kt 26:=⟨rfl⟩
instance :Kt 27:=⟨rfl⟩
instance :Kt 28:=⟨rfl⟩
instance :Kt 29:=⟨rfl⟩
instance :Kt 30:=⟨rfl⟩
instance :Kt 31:=⟨rfl⟩
instance :Kt 32:=⟨rfl⟩
instance :Kt 33:=⟨rfl⟩
instance :Kt 34:=⟨rfl⟩
instance :Kt 35:=⟨rfl⟩
instance :Kt 36:=⟨rfl⟩
instance :Kt 43:=⟨rfl⟩
instance :Kt 52:=⟨rfl⟩
instance :Kt 53:=⟨rfl⟩
instance :Kt 54:=⟨rfl⟩
instance :Kt 55:=⟨rfl⟩
instance :Kt 56:=⟨rfl⟩
instance :Kt 57:=⟨rfl⟩
instance :Kt 58:=⟨rfl⟩
instance :Kt 59:=⟨rfl⟩
instance :Kt 60:=⟨rfl⟩
instance :Kt 61:=⟨rfl⟩
instance :Kt 62:=⟨rfl⟩
instance :Kt 63:=⟨rfl⟩
instance :Kt 64:=⟨rfl⟩
instance :Kt 65:=⟨rfl⟩
@[simp] theorem func65:gp.funcs[65]? =some Tryz.f65:=fk Tryz.func65
abbrev ntmps65:=Tryz.ntmps65
theorem call65(a w):(callFunc 65 a).run gp w= .ok (.enter 65 a) w:=Zrr 65 a w
instance :Kt 66:=⟨rfl⟩
@[simp] theorem func66:gp.funcs[66]? =some Tryz.f66:=fk Tryz.func66
abbrev ntmps66:=Tryz.ntmps66
theorem call66(a w):(callFunc 66 a).run gp w= .ok (.enter 66 a) w:=Zrr 66 a w
instance :Kt 67:=⟨rfl⟩
instance :Kt 68:=⟨rfl⟩
instance :Kt 69:=⟨rfl⟩
instance :Kt 70:=⟨rfl⟩
instance :Kt 71:=⟨rfl⟩
instance :Kt 72:=⟨rfl⟩
instance :Kt 73:=⟨rfl⟩
instance :Kt 74:=⟨rfl⟩
instance :Kt 75:=⟨rfl⟩
instance :Kt 76:=⟨rfl⟩
instance :Kt 77:=⟨rfl⟩
instance :Kt 78:=⟨rfl⟩
instance :Kt 79:=⟨rfl⟩
instance :Kt 82:=⟨rfl⟩
instance :Kt 83:=⟨rfl⟩
instance :Kt 97:=⟨rfl⟩
instance :Kt 98:=⟨rfl⟩
instance :Kt 99:=⟨rfl⟩
instance :Kt 100:=⟨rfl⟩
instance :Kt 101:=⟨rfl⟩
instance :Kt 102:=⟨rfl⟩
instance :Kt 103:=⟨rfl⟩
instance :Kt 104:=⟨rfl⟩
instance :Kt 105:=⟨rfl⟩
instance :Kt 106:=⟨rfl⟩
instance :Kt 107:=⟨rfl⟩
instance :Kt 108:=⟨rfl⟩
instance :Kt 109:=⟨rfl⟩
instance :Kt 110:=⟨rfl⟩
instance :Kt 111:=⟨rfl⟩
instance :Kt 112:=⟨rfl⟩
instance :Kt 113:=⟨rfl⟩
@[simp] theorem func113:gp.funcs[113]? =some Tryz.f113:=fk Tryz.func113
abbrev ntmps113:=Tryz.ntmps113
theorem call113(a w):(callFunc 113 a).run gp w= .ok (.enter 113 a) w:=Zrr 113 a w
instance :Kt 115:=⟨rfl⟩
instance :Kt 116:=⟨rfl⟩
instance :Kt 117:=⟨rfl⟩
instance :Kt 118:=⟨rfl⟩
instance :Kt 119:=⟨rfl⟩
instance :Kt 137:=⟨rfl⟩
instance :Kt 141:=⟨rfl⟩
@[simp] theorem func141:gp.funcs[141]? =some Tryz.f141:=fk Tryz.func141
abbrev ntmps141:=Tryz.ntmps141
theorem call141(a w):(callFunc 141 a).run gp w= .ok (.enter 141 a) w:=Zrr 141 a w
instance :Kt 144:=⟨rfl⟩
instance :Kt 145:=⟨rfl⟩
instance :Kt 146:=⟨rfl⟩
instance :Kt 147:=⟨rfl⟩
instance :Kt 180:=⟨rfl⟩
instance :Kt 181:=⟨rfl⟩
instance :Kt 182:=⟨rfl⟩
instance :Kt 279:=⟨rfl⟩
instance :Kt 280:=⟨rfl⟩
instance :Kt 281:=⟨rfl⟩
instance :Kt 282:=⟨rfl⟩
instance :Kt 283:=⟨rfl⟩
instance :Kt 284:=⟨rfl⟩
end
@[simp] theorem func114:prog.funcs[114]? =some kf:=by rw[prog_fs];exact fs114
@[simp] theorem ntmps114:kf.ntmps=34:=by kernel_rfl
@[simp] theorem call114 (args:Array Value) (w:World):(callFunc 114 args).run prog w= .ok (.enter 114 args) w:=Z7 func114 (by kernel_rfl) (by kernel_rfl) args w
end Go.Proofs.Tryq
