import Derived.Test.YthahddndgbpooaaGreatDoorNkA
import Derived.Test.YthahddndgbpooaaGreatDoorNk07
set_option linter.all false
set_option maxRecDepth 100000
open Go Go.Nk
variable {f:FuncId}{i:Nat}{P:Program}
namespace Go.Proofs.Tryw
abbrev kidBan:Ban:=⟨λf=>f==114,λ_=>1,true⟩
attribute [local instance] kidBan
open Go.Proofs.Tryq (stub wf_typeInfo wf_sizeOf wf_underlying wf_isAgg wf_zeroValue Z7)
noncomputable def fs:Array Func:= #[
 stub,stub,stub,stub,stub,stub,stub,stub,stub,stub,stub,stub,
 stub,stub,stub,stub,stub,stub,stub,stub,stub,stub,stub,stub,
 stub,stub,stub,stub,stub,stub,stub,stub,stub,stub,stub,stub,
 stub,stub,stub,stub,stub,stub,stub,stub,stub,stub,stub,stub,
 stub,stub,stub,stub,stub,stub,stub,stub,stub,stub,stub,stub,
 stub,stub,stub,stub,stub,Tryz.f65,Tryz.f66,stub,stub,stub,stub,stub,
 stub,stub,stub,stub,stub,stub,stub,stub,stub,stub,stub,stub,
 stub,stub,stub,stub,stub,stub,stub,stub,stub,stub,stub,stub,
 stub,stub,stub,stub,stub,stub,stub,stub,stub,stub,stub,stub,
 stub,stub,stub,stub,stub,Tryz.f113,stub,stub,stub,stub,stub,stub,
 stub,stub,stub,stub,stub,stub,stub,stub,stub,stub,stub,stub,
 stub,stub,stub,stub,stub,stub,stub,stub,stub,Tryz.f141,stub,stub,
 stub,stub,stub,stub,stub,stub,stub,stub,stub,stub,stub,stub,
 stub,stub,stub,stub,stub,stub,stub,stub,stub,stub,stub,stub,
 stub,stub,stub,stub,stub,stub,stub,stub,stub,stub,stub,stub,
 stub,stub,stub,stub,stub,stub,stub,stub,stub,stub,stub,stub,
 stub,stub,stub,stub,stub,stub,stub,stub,stub,stub,stub,stub,
 stub,stub,stub,stub,stub,stub,stub,stub,stub,stub,stub,stub,
 stub,stub,stub,stub,stub,stub,stub,stub,stub,stub,stub,stub,
 stub,stub,stub,stub,stub,stub,stub,stub,stub,stub,stub,stub,
 stub,stub,stub,stub,stub,stub,stub,stub,stub,stub,stub,stub,
 stub,stub,stub,stub,stub,stub,stub,stub,stub,stub,stub,stub,
 stub,stub,stub,stub,stub,stub,stub,stub,stub,stub,stub,stub,
 stub,stub,stub,stub,stub,stub,stub,stub,stub,stub,stub,stub,
 stub,stub,stub,stub,stub,stub,stub,stub,stub,stub,stub]
noncomputable def prog:Program:=Z6 Tryz.prog fs
def Gs:Nat->Bool:=λ_=>false
def tmB(P:Program)(Gs:Nat->Bool)(i:Nat):Bool:=match P.funcs[i]? with
 |some fn=>(match fn.body with|some c=>Zn P Gs c|none=>false)
 |none=>false
theorem Z9r{fs:Array Func}{Gs:Nat->Bool}(h:tmB P Gs i=true)(hs:fs[i]? =P.funcs[i]?):Tm P fs Gs i:=by
 unfold tmB at h;split at h
 ·rename_i fn hfn;split at h
  ·rename_i c hc;exact⟨fn,c,hs.trans hfn,hfn,hc,h⟩
  ·cases h
 ·cases h
def keptList:List Nat:=[65,66,113,141]
def okB(P:Program)(fs:Array Func)(i:Nat):Bool:=match fs[i]? with
 |none=>true
 |some fn'=>Z6k fn'||(match P.funcs[i]? with|none=>false|some fn=>fn'.body.isSome&&fn.body.isSome&& !(fn'.name== "runtime.NumGoroutine")&& !(fn.name== "runtime.NumGoroutine"))
theorem Z3v{fs:Array Func}(n:Nat)(hn:fs.size=n)(h:(List.range n).all (okB P fs)=true)(hT:P.info? 1000000000=none):Z3T P fs:=by
 refine⟨λf fn' hf=> ?_,hT⟩;have A3:f<n:=by rw[<-hn];exact(YF.1 hf).1
 have h1:=YL.1 h f (YU.2 A3);unfold okB at h1;rw[hf] at h1;simp only[UB] at h1;rcases h1 with h1|h1
 ·exact .inl h1
 ·right
  split at h1
  ·cases h1
  ·rename_i fn hfn;simp only[YG,XR] at h1;exact⟨fn',fn,hf,hfn,h1.1.1.1,h1.1.1.2,h1.1.2,h1.2⟩
theorem fs_size:fs.size=299:=by kernel_rfl
theorem fsOk:Z3T Tryz.prog fs:=Z3v 299 fs_size (by kernel_rfl) (by kernel_rfl)
theorem fsOkS:Z3T prog fs:=Z3v 299 fs_size (by kernel_rfl) (by kernel_rfl)
theorem same65:fs[65]? =Tryz.prog.funcs[65]? :=by kernel_rfl
theorem same66:fs[66]? =Tryz.prog.funcs[66]? :=by kernel_rfl
theorem same113:fs[113]? =Tryz.prog.funcs[113]? :=by kernel_rfl
theorem same141:fs[141]? =Tryz.prog.funcs[141]? :=by kernel_rfl
theorem kept_same:∀i∈keptList,fs[i]? =Tryz.prog.funcs[i]? :=
 YD.2 ⟨same65,YD.2 ⟨same66,YD.2 ⟨same113,YD.2 ⟨same141,List.forall_mem_nil _⟩⟩⟩⟩
theorem kept_tm:keptList.all (tmB Tryz.prog Gs)=true:=by kernel_rfl
theorem all_tm:(keptList.all (tmB prog Gs))=true:=by kernel_rfl
theorem kept_all:(List.range 299).all (λi=>keptList.contains i||(match fs[i]? with|some fn=>fn.body.isNone|none=>true))=true:=by kernel_rfl
theorem ent_kept(h:Ent P fs f):f∈keptList:=by
 obtain⟨fn',fn,h1,_,h3,_⟩:=h;have A3:f<299:=by rw[<-fs_size];exact(YF.1 h1).1
 have h4:=YL.1 kept_all f (YU.2 A3);simp only[h1,UB,VH] at h4;rcases h4 with h4|h4
 ·exact h4
 ·rw[QD] at h4;rw[h4] at h3;cases h3
theorem tm(h:f∈keptList):Tm Tryz.prog fs Gs f:=Z9r (YL.1 kept_tm f h) (kept_same f h)
theorem solo:Solo Tryz.prog fs Gs:=⟨fsOkS,λf hf=>Z9r (YL.1 all_tm f (ent_kept hf)) rfl⟩
@[simp] theorem toTables_eq:prog.toTables=Tryz.prog.toTables:=rfl
@[simp] theorem run_typeInfo (n:TypeId) (w:World):(typeInfo n).run prog w=(typeInfo n).run Tryz.prog w:=wf_typeInfo Tryz.prog fs n w
@[simp] theorem run_sizeOf (n:TypeId) (w:World):(Go.sizeOf n).run prog w=(Go.sizeOf n).run Tryz.prog w:=wf_sizeOf Tryz.prog fs n w
@[simp] theorem underlying_eq (n:TypeId):prog.underlying n=Tryz.prog.underlying n:=Z0J Tryz.prog fs n
@[simp] theorem run_underlying (n:TypeId) (w:World):(underlying n).run prog w=(underlying n).run Tryz.prog w:=wf_underlying Tryz.prog fs n w
@[simp] theorem run_isAgg (n:TypeId) (w:World):(isAgg n).run prog w=(isAgg n).run Tryz.prog w:=wf_isAgg Tryz.prog fs n w
@[simp] theorem run_zeroValue (n:TypeId) (w:World):(zeroValue n).run prog w=(zeroValue n).run Tryz.prog w:=wf_zeroValue Tryz.prog fs n w
@[simp] theorem func65:prog.funcs[65]? =some Tryz.f65:=by kernel_rfl
abbrev ntmps65:=Tryz.ntmps65
@[simp] theorem call65 (args:Array Value) (w:World):(callFunc 65 args).run prog w= .ok (.enter 65 args) w:=Z7 func65 (by kernel_rfl) (by kernel_rfl) args w
@[simp] theorem func66:prog.funcs[66]? =some Tryz.f66:=by kernel_rfl
abbrev ntmps66:=Tryz.ntmps66
@[simp] theorem call66 (args:Array Value) (w:World):(callFunc 66 args).run prog w= .ok (.enter 66 args) w:=Z7 func66 (by kernel_rfl) (by kernel_rfl) args w
@[simp] theorem func113:prog.funcs[113]? =some Tryz.f113:=by kernel_rfl
abbrev ntmps113:=Tryz.ntmps113
@[simp] theorem call113 (args:Array Value) (w:World):(callFunc 113 args).run prog w= .ok (.enter 113 args) w:=Z7 func113 (by kernel_rfl) (by kernel_rfl) args w
@[simp] theorem func141:prog.funcs[141]? =some Tryz.f141:=by kernel_rfl
abbrev ntmps141:=Tryz.ntmps141
@[simp] theorem call141 (args:Array Value) (w:World):(callFunc 141 args).run prog w= .ok (.enter 141 args) w:=Z7 func141 (by kernel_rfl) (by kernel_rfl) args w
end Go.Proofs.Tryw
