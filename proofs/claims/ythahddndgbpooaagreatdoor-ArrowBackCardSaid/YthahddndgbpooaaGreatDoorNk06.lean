import Derived.Test.YthahddndgbpooaaGreatDoorNkA
import Derived.Test.YthahddndgbpooaaGreatDoorNk05
import Derived.Calls
import Derived.Conc.Fork
set_option linter.all false
open Go Go.Conc
variable {args:Array Value}{fn:Func}{f:FuncId}{m':Machine}{P:Program}{tr:Tmp}{t':Trace}{R:Value->World->Prop}{V w0:World}
namespace Go.Nk
open Go.ConcN (sumTo)
variable [Ban]
def Z82(P:Program)(f:FuncId)(t:Tmp)(R:Value->World->Prop)(fr:Frame)(cs:List Frame)(V:World):Prop:=
 cs=[trap]/\fr.fn=f/\fr.mode= .returning/\fr.defers=[]/\R (fr.tmps.getD t undef) V
section
variable {fs:Array Func}{Gs:Nat->Bool}
theorem Z2a(hR:∀t v V,R v V->R v (retape t V)):IsEnd (Z82 P f tr R):=
 ⟨λ_ _ _ h=>⟨h.1,h.2.2.1⟩,λ_ _ _ h=>h.2.2.2.1,λ_ _ _ _ h=>⟨h.1,h.2.1,h.2.2.1,h.2.2.2.1,hR _ _ _ h.2.2.2.2⟩⟩
theorem Z2p(hf:P.funcs[f]? =some fn)(hr:fn.results= #[.tmp tr])
 (h:∀t,Calls P f args (retape t V) λe V'=>∃v,e= .returned v/\R v V'):ZdQ P (Z82 P f tr R) (Frame.enter P f args .normal) [trap] V:=by
 intro t;obtain⟨e,V',fr,⟨v,rfl,hv⟩,⟨n,hn⟩,hfn,hm,hd,hk,fn',hf',Aj⟩:=h t [trap];rw[hfn,hf] at hf';cases hf';rw[RG hr] at Aj;cases Aj;exact⟨n,fr,[trap],V',hn,rfl,hfn,hm,hd,hv⟩
end
theorem runNT_cat:∀{N N':Nat}{m:Machine}{t:Trace}{r:Stepped×Trace},runNT P N m t=(.next m',t')->runNT P N' m' t'=r->runNT P (N+N') m t=r:=by
 intro N
 induction N with
 |zero=>
  intro N' m t r h hr;simp only[runNT,SI,VV] at h;obtain⟨rfl,rfl⟩:=h;rw[UA];exact hr
 |succ N ih=>
  intro N' m t r h hr;cases e:stepT P m with
  |mk s ops=>
   cases s with
   |next m₁=>
    rw[Z0F e rfl] at h;rw[Nat.succ_add];exact Z0F e (ih h hr)
   |ended o w1=>simp only[runNT,e,SI,reduceCtorEq,false_and] at h
structure Start[Ban](Gs:Nat->Bool)(G:Nat)(V w:World):Prop where
 emb:Emb id G (λb=>Gs b=true) V w
 self:Sim id G (λ_=>False) V V
 loops:∀(b:Nat)(l:Loop),V.heap[b]? ≠some (Obj.loop l)
 live:∀g,Gs g=true↔Live V g
end Go.Nk
