/- Short names for lemmas of the library. -/
import Derived.KernelRfl
set_option linter.all false
namespace Go
universe u
theorem YA{α:Type u}{a:α}{l:List α}:(a::l)[0]? =some a:=rfl
theorem YB{α:Type u}{a:α}{i:Nat}{l:List α}:(a::l)[i+1]? =l[i]?:=rfl
theorem YC{α:Type u}{xs:List α}{i:Nat}:xs.toArray[i]? =xs[i]?:=List.getElem?_toArray
theorem YD{α:Type u}{p:α->Prop}{a:α}{l:List α}:(∀x,x∈a::l->p x)<->p a/\∀x,x∈l->p x:=List.forall_mem_cons
theorem YF{α:Type u}{i:Nat}{b:α}{xs:Array α}:xs[i]? =some b<->∃h:i<xs.size,xs[i]=b:=Array.getElem?_eq_some_iff
theorem YG(a b:Bool):((a&&b)=true)=(a=true/\b=true):=Bool.and_eq_true a b
theorem YH{α:Type u}{l:List α}{i:Nat}(h:i<l.length):l[i]? =some l[i]:=List.getElem?_eq_getElem h
theorem YI{α:Type u}{i:Nat}{a:α}{l:List α}:l[i]? =some a<->∃h:i<l.length,l[i]=a:=List.getElem?_eq_some_iff
theorem YJ{α:Type u}(s:List α):[]++s=s:=rfl
theorem YK{α:Type u}{a:α}{s t:List α}:(a::s)++t=a::(s++t):=rfl
theorem YL{α:Type u}{p:α->Bool}{l:List α}:l.all p=true<->∀x,x∈l->p x=true:=List.all_eq_true
theorem YM{α:Type u}{xs:Array α}{i:Nat}{a:α}(h:i<xs.size):(xs.setIfInBounds i a)[i]? =some a:=Array.getElem?_setIfInBounds_self_of_lt h
theorem YN{α:Type u}{xs:Array α}{i:Nat}(h:i<xs.size):xs[i]? =some xs[i]:=Array.getElem?_eq_getElem h
theorem YO{α:Type u}{xs:Array α}{i j:Nat}(h:i≠j){a:α}:(xs.setIfInBounds i a)[j]? =xs[j]?:=Array.getElem?_setIfInBounds_ne h
theorem YP{α:Type u}{a:α}{s:List α}:(a::s).length=s.length+1:=rfl
theorem YQ{α:Type u}{l:List α}{i:Nat}{a:α}(h:l[i]? =some a):a∈l:=List.mem_of_getElem? h
theorem YR:(false=true)=False:=Bool.false_eq_true
theorem YS{n m k:Nat}(h:n<m)(g:m<=k):n<k:=Nat.lt_of_lt_of_le h g
theorem YT{α:Type u}{a b:α}(h:some a=some b):a=b:=Option.some.inj h
theorem YU{m n:Nat}:m∈List.range n<->m<n:=List.mem_range
theorem YW{α:Type u}(y:α){a:α}{l:List α}(h:a∈l):a∈y::l:=List.mem_cons_of_mem y h
theorem YY{α:Type u}{a:α}{l:List α}:a∈a::l:=List.mem_cons_self
end Go
