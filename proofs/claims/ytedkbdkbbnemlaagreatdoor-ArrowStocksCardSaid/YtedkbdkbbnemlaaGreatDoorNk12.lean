import Derived.Test.YtedkbdkbbnemlaaGreatDoorNkA
import Derived.Test.YtedkbdkbbnemlaaGreatDoorNk07
set_option linter.all false
namespace Go.Proofs.Tryw
set_option maxRecDepth 100000
open Go Go.Nk
abbrev kidBan:Ban:=⟨fun f=>f==155,fun _=>1,true⟩
attribute [local instance] kidBan
open Go.Proofs.Tryq (stub okB Z3v wf_typeInfo wf_sizeOf wf_underlying wf_isAgg wf_zeroValue Z7)
noncomputable def fs:Array Func:= #[
 stub,stub,stub,stub,stub,stub,stub,stub,stub,stub,stub,stub,
 stub,stub,stub,stub,stub,stub,stub,stub,stub,stub,stub,stub,
 stub,stub,stub,stub,stub,stub,stub,stub,stub,stub,stub,stub,
 stub,stub,stub,stub,stub,stub,stub,stub,stub,stub,stub,stub,
 stub,stub,stub,stub,stub,stub,stub,stub,stub,stub,stub,stub,
 stub,stub,stub,stub,stub,stub,stub,stub,stub,stub,stub,stub,
 stub,stub,stub,stub,stub,stub,stub,stub,stub,stub,stub,stub,
 stub,stub,stub,stub,stub,stub,stub,stub,stub,stub,stub,stub,
 stub,stub,stub,stub,stub,stub,stub,stub,stub,stub,stub,stub,
 stub,stub,Tryz.f110,Tryz.f111,stub,stub,stub,stub,stub,stub,stub,stub,
 stub,stub,stub,stub,stub,stub,stub,stub,stub,stub,stub,stub,
 stub,stub,stub,stub,stub,stub,stub,stub,stub,stub,stub,stub,
 stub,stub,stub,stub,stub,stub,stub,stub,Tryz.f152,stub,stub,stub,
 stub,stub,stub,stub,stub,stub,stub,stub,Tryz.f164,stub,stub,stub,
 stub,stub,stub,stub,stub,stub,stub,stub,stub,stub,stub,stub,
 stub,stub,stub,stub,stub,stub,stub,stub,stub,stub,stub,stub,
 stub,stub,stub,stub,stub,stub,stub,stub,stub,stub,stub,stub,
 stub,stub,stub,stub,stub,stub,stub,stub,stub,stub,stub,stub,
 stub,stub,stub,stub,stub,stub,stub,stub]
noncomputable def prog:Program:=Z6 Tryz.prog fs
def Gs:Nat->Bool:=fun _=>false
def tmB(P:Program)(Gs:Nat->Bool)(i:Nat):Bool:=match P.funcs[i]? with
 |some fn=>(match fn.body with|some c=>Zn P Gs c|none=>false)
 |none=>false
theorem Z9r{P:Program}{fs:Array Func}{Gs:Nat->Bool}{i:Nat}(h:tmB P Gs i=true)(hs:fs[i]? =P.funcs[i]?):Tm P fs Gs i:=by
 unfold tmB at h;split at h
 ·rename_i fn hfn;split at h
  ·rename_i c hc;exact⟨fn,c,hs.trans hfn,hfn,hc,h⟩
  ·cases h
 ·cases h
def keptList:List Nat:=[110,111,152,164]
theorem fs_size:fs.size=224:=by kernel_rfl
theorem fsOk:Z3T Tryz.prog fs:=Z3v 224 fs_size (by kernel_rfl) (by kernel_rfl)
theorem fsOkS:Z3T prog fs:=Z3v 224 fs_size (by kernel_rfl) (by kernel_rfl)
theorem same110:fs[110]? =Tryz.prog.funcs[110]? :=by kernel_rfl
theorem same111:fs[111]? =Tryz.prog.funcs[111]? :=by kernel_rfl
theorem same152:fs[152]? =Tryz.prog.funcs[152]? :=by kernel_rfl
theorem same164:fs[164]? =Tryz.prog.funcs[164]? :=by kernel_rfl
theorem kept_same:∀i∈keptList,fs[i]? =Tryz.prog.funcs[i]? :=
 YD.2 ⟨same110,YD.2 ⟨same111,YD.2 ⟨same152,YD.2 ⟨same164,List.forall_mem_nil _⟩⟩⟩⟩
theorem kept_tm:keptList.all (tmB Tryz.prog Gs)=true:=by kernel_rfl
theorem all_tm:(keptList.all (tmB prog Gs))=true:=by kernel_rfl
theorem kept_all:(List.range 224).all (fun i=>keptList.contains i||(match fs[i]? with|some fn=>fn.body.isNone|none=>true))=true:=by kernel_rfl
theorem ent_kept{P:Program}{f:FuncId}(h:Ent P fs f):f∈keptList:=by
 obtain⟨fn',fn,h1,_,h3,_⟩:=h;have A4:f<224:=by rw[<-fs_size];exact(YF.1 h1).1
 have h4:=YL.1 kept_all f (YU.2 A4);simp only[h1,Bool.or_eq_true,List.contains_iff_mem] at h4;rcases h4 with h4|h4
 ·exact h4
 ·rw[Option.isNone_iff_eq_none] at h4;rw[h4] at h3;cases h3
theorem tm{f:FuncId}(h:f∈keptList):Tm Tryz.prog fs Gs f:=Z9r (YL.1 kept_tm f h) (kept_same f h)
theorem solo:Solo Tryz.prog fs Gs:=⟨fsOkS,fun f hf=>Z9r (YL.1 all_tm f (ent_kept hf)) rfl⟩
@[simp] theorem toTables_eq:prog.toTables=Tryz.prog.toTables:=rfl
@[simp] theorem run_typeInfo (n:TypeId) (w:World):(typeInfo n).run prog w=(typeInfo n).run Tryz.prog w:=wf_typeInfo Tryz.prog fs n w
@[simp] theorem run_sizeOf (n:TypeId) (w:World):(Go.sizeOf n).run prog w=(Go.sizeOf n).run Tryz.prog w:=wf_sizeOf Tryz.prog fs n w
@[simp] theorem underlying_eq (n:TypeId):prog.underlying n=Tryz.prog.underlying n:=Z0J Tryz.prog fs n
@[simp] theorem run_underlying (n:TypeId) (w:World):(underlying n).run prog w=(underlying n).run Tryz.prog w:=wf_underlying Tryz.prog fs n w
@[simp] theorem run_isAgg (n:TypeId) (w:World):(isAgg n).run prog w=(isAgg n).run Tryz.prog w:=wf_isAgg Tryz.prog fs n w
@[simp] theorem run_zeroValue (n:TypeId) (w:World):(zeroValue n).run prog w=(zeroValue n).run Tryz.prog w:=wf_zeroValue Tryz.prog fs n w
@[simp] theorem func110:prog.funcs[110]? =some Tryz.f110:=by kernel_rfl
abbrev ntmps110:=Tryz.ntmps110
@[simp] theorem call110 (args:Array Value) (w:World):(callFunc 110 args).run prog w= .ok (.enter 110 args) w:=Z7 func110 (by kernel_rfl) (by kernel_rfl) args w
@[simp] theorem func111:prog.funcs[111]? =some Tryz.f111:=by kernel_rfl
abbrev ntmps111:=Tryz.ntmps111
@[simp] theorem call111 (args:Array Value) (w:World):(callFunc 111 args).run prog w= .ok (.enter 111 args) w:=Z7 func111 (by kernel_rfl) (by kernel_rfl) args w
@[simp] theorem func152:prog.funcs[152]? =some Tryz.f152:=by kernel_rfl
abbrev ntmps152:=Tryz.ntmps152
@[simp] theorem call152 (args:Array Value) (w:World):(callFunc 152 args).run prog w= .ok (.enter 152 args) w:=Z7 func152 (by kernel_rfl) (by kernel_rfl) args w
@[simp] theorem func164:prog.funcs[164]? =some Tryz.f164:=by kernel_rfl
abbrev ntmps164:=Tryz.ntmps164
@[simp] theorem call164 (args:Array Value) (w:World):(callFunc 164 args).run prog w= .ok (.enter 164 args) w:=Z7 func164 (by kernel_rfl) (by kernel_rfl) args w
end Go.Proofs.Tryw
