import Derived.Test.YthahddndgbpooaaGreatDoorNkA
import Derived.ChangeArms
import Derived.Conc.Beside
import Derived.Deep.Slices
import Derived.KernelRfl
import Derived.OpenShut
set_option linter.all false
open Go
variable {new:Array Event}{b':Array Value}{held:Bool}{Λ:Loop->Prop}{i:Nat}{spare:Nat->Bool}{ρ':Nat->Nat}{Fz L':Nat->Prop}{o1 o2:Obj}{u:TypeId}{d:Value}{V V' V'' V1 w w' w'' w1:World}
namespace Go.Nk
section
open Go.Deep
def Z3e(P:Program):Nat->TypeId->Nat->List (Nat×TypeId)
 |0,t,o=>[(o,t)]
 |n+1,t,o=>match P.underlying t with
  |some (.struct fs)=>fs.toList.flatMap λf=>if f.offset+P.cellsOf f.type<=P.cellsOf t then Z3e P n f.type (o+f.offset) else[]
  |some (.array k e)=>(List.range k).flatMap λi=>if i*P.cellsOf e+P.cellsOf e<=P.cellsOf t then Z3e P n e (o+i*P.cellsOf e) else[]
  |_=>[(o,t)]
def Z27{H:Type}(P:Program):Nat->TypeId->Nat->DataW H->List (Nat×TypeId×DataW H)
 |0,t,o,d=>[(o,t,d)]
 |n+1,t,o,d=>match P.underlying t,d with
  |some (.struct fs),.agg ps=>(fs.toList.zip ps).flatMap λy=>if y.1.offset+P.cellsOf y.1.type<=P.cellsOf t then Z27 P n y.1.type (o+y.1.offset) y.2 else[]
  |some (.array _ e),.agg ps=>ps.zipIdx.flatMap λy=>if y.2*P.cellsOf e+P.cellsOf e<=P.cellsOf t then Z27 P n e (o+y.2*P.cellsOf e) y.1 else[]
  |_,_=>[(o,t,d)]
theorem Z33{α:Type}(cs:List α){o c off k:Nat}(h:off+k<=c):(((cs.drop o).take c).drop off).take k=(cs.drop (o+off)).take k:=by
 rw[List.drop_take,List.take_take,List.drop_drop,RS (by omega)]
section
variable {H:Type}{enc:TypeId×Value->H}{P:Program}{base:Nat}
theorem Z3f(cs:List Value):∀(n:Nat)(t:TypeId)(o:Nat),(∃m x,DataW.trod enc P w base spare held m t ((cs.drop o).take (P.cellsOf t))=some x)->
 ∀y∈Z3e P n t o,∃m x,DataW.trod enc P w base spare held m y.2 ((cs.drop y.1).take (P.cellsOf y.2))=some x:=by
 intro n
 induction n with
 |zero=>rintro t o h y hy;obtain rfl:=XO.1 hy;exact h
 |succ n ih=>
  rintro t o ⟨m,x,h⟩ y hy;unfold Z3e at hy;split at hy
  ·rename_i fs ht;obtain⟨xs,k,rfl,rfl,hl,Qs,hf⟩:=DataW.trod_struct ht h;obtain⟨f,Qt,hy⟩:=SR.1 hy;split at hy
   ·rename_i Bl;obtain⟨i,hi⟩:=List.mem_iff_getElem?.1 Qt;have hi':fs[i]? =some f:=(by simpa using hi);have A3:i<xs.length:=(by rw[Qs];exact(YF.1 hi').1);have:=hf i f hi';rw[Z33 cs Bl,YH A3] at this;exact ih _ _ ⟨_,_,this⟩ y hy
   ·cases hy
  ·rename_i k e ht;obtain⟨xs,q,rfl,rfl,hl,Qs,hf⟩:=DataW.trod_array ht h;obtain⟨i,hi,hy⟩:=SR.1 hy;have hi:=YU.1 hi;split at hy
   ·rename_i Bl;have:=hf i hi;rw[Z33 cs Bl,YH (by omega)] at this;exact ih _ _ ⟨_,_,this⟩ y hy
   ·cases hy
  ·obtain rfl:=XO.1 hy;exact⟨m,x,h⟩
theorem Z3W(cs:List Value):∀(n:Nat)(t:TypeId)(o:Nat)(d:DataW H),(∃m p,DataW.trod enc P w base spare held m t ((cs.drop o).take (P.cellsOf t))=some (d,p))->
 ∀y∈Z27 P n t o d,∃m p,DataW.trod enc P w base spare held m y.2.1 ((cs.drop y.1).take (P.cellsOf y.2.1))=some (y.2.2,p):=by
 intro n
 induction n with
 |zero=>rintro t o d h y hy;obtain rfl:=XO.1 hy;exact h
 |succ n ih=>
  rintro t o d ⟨m,p,h⟩ y hy;unfold Z27 at hy;split at hy
  ·rename_i fs ps ht;obtain⟨xs,k,rfl,hx,hl,Qs,hf⟩:=DataW.trod_struct ht h;simp only[SI,DataW.agg.injEq] at hx;obtain⟨rfl,_⟩:=hx;obtain⟨f,Qt,hy⟩:=SR.1 hy;split at hy
   ·rename_i Bl;obtain⟨i,hi⟩:=List.mem_iff_getElem?.1 Qt;obtain⟨h1,h2⟩:=List.getElem?_zip_eq_some.1 hi;have hi':fs[i]? =some f.1:=(by simpa using h1);have:=hf i f.1 hi';rw[Z33 cs Bl] at this;rw[List.getElem?_map] at h2;obtain⟨z,hz,Ph⟩:=XT.1 h2;rw[hz] at this;exact ih _ _ _ ⟨_,z.2,by rw[this,<-Ph]⟩ y hy
   ·cases hy
  ·rename_i k e ps ht;obtain⟨xs,q,rfl,hx,hl,Qs,hf⟩:=DataW.trod_array ht h;simp only[SI,DataW.agg.injEq] at hx;obtain⟨rfl,_⟩:=hx;obtain⟨f,Qt,hy⟩:=SR.1 hy;split at hy
   ·rename_i Bl;obtain⟨hi,h2⟩:=List.mem_zipIdx' Qt;have h3:(xs.map (·.1))[f.2]? =some f.1:=(by rw[YH hi,h2]);rw[List.getElem?_map] at h3;obtain⟨z,hz,Ph⟩:=XT.1 h3;have A3:f.2<k:=(by rw[<-Qs];simpa using hi);have:=hf f.2 A3;rw[Z33 cs Bl,hz] at this;exact ih _ _ _ ⟨_,z.2,by rw[this,<-Ph]⟩ y hy
   ·cases hy
  ·obtain rfl:=XO.1 hy;exact⟨m,p,h⟩
theorem Z1Q{cs:List Value}{o c:Nat}{v:Value}(h:(cs.drop o).take c=[v]):cs[o]? =some v:=by
 have h1:((cs.drop o).take c)[0]? =some v:=by rw[h];rfl
 rw[List.getElem?_take] at h1;split at h1
 ·rw[List.getElem?_drop] at h1;exact h1
 ·cases h1
theorem Z0z{n:Nat}{t:TypeId}{k:IntKind}{o:Nat}{cs:List Value}(Ag:cs.length<=P.cellsOf t)(h:∃m x,DataW.trod enc P w base spare held m t cs=some x)(hm:(Z3e P n t 0).any (λy=>y.1==o&&y.2==u)=true)(hu:P.underlying u=some (.int k)):∃x,cs[o]? =some (.int k x)/\(Lit.int k x).wf=true:=by
 obtain⟨y,hy,he⟩:=SS.1 hm;simp only[YG,XW] at he;obtain⟨m,x,hx⟩:=Z3f cs n t 0 (by rw[VP,VT Ag];exact h) y hy;rw[he.1,he.2] at hx;obtain⟨z,h1,_,h2⟩:=DataW.trod_int hu hx;exact⟨z,Z1Q h1,h2⟩
theorem Z6d{n:Nat}{t:TypeId}{o:Nat}{cs:List Value}(Ag:cs.length<=P.cellsOf t)(h:∃m x,DataW.trod enc P w base spare held m t cs=some x)(hm:(Z3e P n t 0).any (λy=>y.1==o&&y.2==u)=true)(hu:P.underlying u=some .string):∃s:ByteArray,cs[o]? =some (.string s)/\s.size<=maxLen:=by
 obtain⟨y,hy,he⟩:=SS.1 hm;simp only[YG,XW] at he;obtain⟨m,x,hx⟩:=Z3f cs n t 0 (by rw[VP,VT Ag];exact h) y hy;rw[he.1,he.2] at hx;obtain⟨z,h1,_,h2⟩:=DataW.trod_string hu hx;exact⟨z,Z1Q h1,h2⟩
theorem Z7R{n:Nat}{t e:TypeId}{o:Nat}{cs:List Value}(Ag:cs.length<=P.cellsOf t)(h:∃m x,DataW.trod enc P w base spare held m t cs=some x)(hm:(Z3e P n t 0).any (λy=>y.1==o&&y.2==u)=true)(hu:P.underlying u=some (.slice e)):
 ∃v m x,cs[o]? =some v/\DataW.trod enc P w base spare held m u [v]=some x:=by
 obtain⟨y,hy,he⟩:=SS.1 hm;simp only[YG,XW] at he;obtain⟨m,x,hx⟩:=Z3f cs n t 0 (by rw[VP,VT Ag];exact h) y hy;rw[he.1,he.2] at hx;rcases open_slice hu hx with⟨h1,_⟩|⟨a,len,cap,q,k,D,Pl,h1,_⟩
 ·exact⟨_,m,x,Z1Q h1,by rw[<-h1];exact hx⟩
 ·exact⟨_,m,x,Z1Q h1,by rw[<-h1];exact hx⟩
end
end
class Ban where
 ban:FuncId->Bool
 arity:FuncId->Nat
 /-- May values be hidden? -/
 holes:Bool
variable [Ban]
def Zl(ρ:Nat->Nat)(a:Addr):Addr:={a with block:=ρ a.block}
def wild:Value->Bool
 | .func (.method _) _ _=>false
 | .pointer (some _)| .slice (some _) _ _| .map (some _)| .chan (some _)| .func _ _ _| .float _ _| .complex _ _ _| .iface _ _=>true
 |_=>false
def bomb:Value:= .func (.method "") #[.iface 1000000000 undef] #[]
inductive VRel(ρ:Nat->Nat)(L:Nat->Prop):Value->Value->Prop
 |hole {v'}:Ban.holes=true->wild v'=true->VRel ρ L undef v'
 |meth {n a c}:Ban.holes=true->VRel ρ L bomb (.func (.method n) a c)
 |bool (b):VRel ρ L (.bool b) (.bool b)
 |int (k n):VRel ρ L (.int k n) (.int k n)
 |string (s):VRel ρ L (.string s) (.string s)
 |nilFunc:VRel ρ L .nilFunc .nilFunc
 |nilIface:VRel ρ L .nilIface .nilIface
 |nilPtr:VRel ρ L (.pointer none) (.pointer none)
 |ptr {a}:L a.block->VRel ρ L (.pointer (some a)) (.pointer (some (Zl ρ a)))
 |nilSlice (l c):VRel ρ L (.slice none l c) (.slice none l c)
 |slice {a} (l c):L a.block->VRel ρ L (.slice (some a) l c) (.slice (some (Zl ρ a)) l c)
 |nilMap:VRel ρ L (.map none) (.map none)
 |map {r}:L r->VRel ρ L (.map (some r)) (.map (some (ρ r)))
 |nilChan:VRel ρ L (.chan none) (.chan none)
 |func {f a a' c c'}:Ban.ban f=false->a.size=a'.size->(∀i,i<a.size->VRel ρ L (a.getD i undef) (a'.getD i undef))->
   c.size=c'.size->(∀i,i<c.size->VRel ρ L (c.getD i undef) (c'.getD i undef))->VRel ρ L (.func (.func f) a c) (.func (.func f) a' c')
 |yield {l a a' c c'}:L l->a.size=a'.size->(∀i,i<a.size->VRel ρ L (a.getD i undef) (a'.getD i undef))->
   c.size=c'.size->(∀i,i<c.size->VRel ρ L (c.getD i undef) (c'.getD i undef))->VRel ρ L (.func (.yield l) a c) (.func (.yield (ρ l)) a' c')
 |iface (t) {v v'}:VRel ρ L v v'->VRel ρ L (.iface t v) (.iface t v')
 |agg {cs cs'}:cs.size=cs'.size->(∀i,i<cs.size->VRel ρ L (cs.getD i undef) (cs'.getD i undef))->VRel ρ L (.agg cs) (.agg cs')
 |tuple {cs cs'}:cs.size=cs'.size->(∀i,i<cs.size->VRel ρ L (cs.getD i undef) (cs'.getD i undef))->VRel ρ L (.tuple cs) (.tuple cs')
def AR(ρ:Nat->Nat)(L:Nat->Prop)(cs cs':Array Value):Prop:=cs.size=cs'.size/\∀i,i<cs.size->VRel ρ L (cs.getD i undef) (cs'.getD i undef)
section
variable {ρ:Nat->Nat}{L:Nat->Prop}
theorem VRel.mono{v v':Value}(h:VRel ρ L v v')(hL:∀b,L b->L' b/\ρ' b=ρ b):VRel ρ' L' v v':=by
 induction h with
 |hole hh h=>exact .hole hh h
 |meth hh=>exact .meth hh
 |bool b=>exact .bool b
 |int k n=>exact .int k n
 |string s=>exact .string s
 |nilFunc=>exact .nilFunc
 |nilIface=>exact .nilIface
 |nilPtr=>exact .nilPtr
 | @ptr a h=>
   have:Zl ρ a=Zl ρ' a:=by simp[Zl,(hL _ h).2]
   rw[this];exact .ptr (hL _ h).1
 |nilSlice l c=>exact .nilSlice l c
 | @slice a l c h=>
   have:Zl ρ a=Zl ρ' a:=by simp[Zl,(hL _ h).2]
   rw[this];exact .slice l c (hL _ h).1
 |nilMap=>exact .nilMap
 | @map r h=>rw[<-(hL _ h).2];exact .map (hL _ h).1
 |nilChan=>exact .nilChan
 |func hb h1 _ h2 _ ih1 ih2=>exact .func hb h1 ih1 h2 ih2
 |yield hl h1 _ h2 _ ih1 ih2=>rw[<-(hL _ hl).2];exact .yield (hL _ hl).1 h1 ih1 h2 ih2
 |iface t _ ih=>exact .iface t ih
 |agg h1 _ ih=>exact .agg h1 ih
 |tuple h1 _ ih=>exact .tuple h1 ih
theorem VRel.up{v v':Value}(h:VRel ρ L v v')(hL:∀b,L b->L' b):VRel ρ L' v v':=h.mono λb hb=>⟨hL b hb,rfl⟩
theorem AR.mono{a a':Array Value}(h:AR ρ L a a')(hL:∀b,L b->L' b/\ρ' b=ρ b):AR ρ' L' a a':=⟨h.1,λi hi=>(h.2 i hi).mono hL⟩
theorem AR.up{a a':Array Value}(h:AR ρ L a a')(hL:∀b,L b->L' b):AR ρ L' a a':=h.mono λb hb=>⟨hL b hb,rfl⟩
theorem VRel.undef:VRel ρ L undef undef:= .tuple rfl (λi hi=>absurd hi (by simp))
theorem AR.at{a a':Array Value}(h:AR ρ L a a')(i:Nat):VRel ρ L (a.getD i undef) (a'.getD i undef):=by
 by_cases hi:i<a.size
 ·exact h.2 i hi
 ·have e1:a.getD i Go.undef=Go.undef:=by simp[Array.getD,hi]
  have e2:a'.getD i Go.undef=Go.undef:=by simp[Array.getD,<-h.1,hi]
  rw[e1,e2];exact .undef
theorem Z0u{a:Array Value}(h:i<a.size):a.getD i d=a[i]:=by simp[Array.getD,h]
theorem AR.get{a a':Array Value}(h:AR ρ L a a'){i:Nat}{v:Value}(hv:a[i]? =some v):∃v',a'[i]? =some v'/\VRel ρ L v v':=by
 obtain⟨hi,rfl⟩:=YF.1 hv;have hi':i<a'.size:=h.1▸hi;have:=h.2 i hi;rw[Z0u hi,Z0u hi'] at this;exact⟨_,YN hi',this⟩
theorem AR.getNone{a a':Array Value}(h:AR ρ L a a'){i:Nat}(hv:a[i]? =none):a'[i]? =none:=by
 simp only[Array.getElem?_eq_none_iff] at hv⊢;rw[<-h.1];exact hv
theorem AR.mk{a a':Array Value}(hs:a.size=a'.size)(h:∀(i:Nat)(v v':Value),a[i]? =some v->a'[i]? =some v'->VRel ρ L v v'):AR ρ L a a':=by
 refine⟨hs,λi hi=> ?_⟩;have hi':i<a'.size:=hs▸hi;rw[Z0u hi,Z0u hi'];exact h i _ _ (YN hi) (YN hi')
theorem AR.nil:AR ρ L #[] #[]:=⟨rfl,λi hi=>absurd hi (by simp)⟩
theorem AR.push{a a':Array Value}{v v':Value}(h:AR ρ L a a')(hv:VRel ρ L v v'):AR ρ L (a.push v) (a'.push v'):=by
 refine AR.mk (by simp[h.1]) λi x x' hx hx'=> ?_
 rw[Array.getElem?_push] at hx hx';rw[<-h.1] at hx';split at hx
 ·rename_i hi;rw[YZ hi] at hx';cases hx;cases hx';exact hv
 ·rename_i hi;rw[XA hi] at hx';obtain⟨y,hy,hr⟩:=h.get hx;rw[hy] at hx';cases hx';exact hr
theorem AR.one{v v':Value}(hv:VRel ρ L v v'):AR ρ L #[v] #[v']:=AR.nil.push hv
theorem AR.append{a a' b:Array Value}(h:AR ρ L a a')(hb:AR ρ L b b'):AR ρ L (a++b) (a'++b'):=by
 refine AR.mk (by simp[h.1,hb.1]) λi x x' hx hx'=> ?_
 rw[Array.getElem?_append] at hx hx';rw[<-h.1] at hx';split at hx
 ·rename_i hi;rw[YZ hi] at hx';obtain⟨y,hy,hr⟩:=h.get hx;rw[hy] at hx';cases hx';exact hr
 ·rename_i hi;rw[XA hi] at hx';obtain⟨y,hy,hr⟩:=hb.get hx;rw[hy] at hx';cases hx';exact hr
theorem AR.set{a a':Array Value}(h:AR ρ L a a')(i:Nat){v v':Value}(hv:VRel ρ L v v'):AR ρ L (a.setIfInBounds i v) (a'.setIfInBounds i v'):=by
 refine AR.mk (by simp[h.1]) λj x x' hx hx'=> ?_
 by_cases Kc:i=j
 ·subst Kc;have hi:i<a.size:=by have:=(YF.1 hx).1;simpa using this
  rw[YM hi] at hx;rw[YM (h.1▸hi)] at hx';cases hx;cases hx';exact hv
 ·rw[YO Kc] at hx hx';obtain⟨y,hy,hr⟩:=h.get hx;rw[hy] at hx';cases hx';exact hr
theorem AR.extract{a a':Array Value}(h:AR ρ L a a')(i j:Nat):AR ρ L (a.extract i j) (a'.extract i j):=by
 refine AR.mk (by simp[h.1]) λk x x' hx hx'=> ?_
 rw[Array.getElem?_extract] at hx hx';rw[<-h.1] at hx';split at hx
 ·rename_i hi;rw[YZ hi] at hx';obtain⟨y,hy,hr⟩:=h.get hx;rw[hy] at hx';cases hx';exact hr
 ·cases hx
theorem AR.replicate(n:Nat){v v':Value}(hv:VRel ρ L v v'):AR ρ L (Array.replicate n v) (Array.replicate n v'):=by
 refine AR.mk (by simp) λk x x' hx hx'=> ?_
 simp only[Array.getElem?_replicate] at hx hx';split at hx
 ·rename_i hi;rw[YZ hi] at hx';cases hx;cases hx';exact hv
 ·cases hx
theorem AR.get!{a a':Array Value}(h:AR ρ L a a'){i:Nat}(hi:i<a.size):VRel ρ L (a[i]!) (a'[i]!):=by
 have hi':i<a'.size:=h.1▸hi;have:=h.2 i hi;rw[Z0u hi,Z0u hi'] at this;simpa[getElem!_pos,hi,hi'] using this
theorem VRel.cells{v v':Value}(h:VRel ρ L v v'):AR ρ L v.cells v'.cells:=by
 have h0:=h;cases h with
 |agg h1 h2=>exact⟨h1,h2⟩
 |hole _ h=>
  have e:v'.cells= #[v']:=by cases v'<;>first|rfl|(cases h;done)
  rw[e];exact AR.one h0
 |_=>exact AR.one h0
end
def liveO:Obj->Bool
 | .cells .. | .map .. | .stringIter .. | .mapIter .. | .loop _| .deferred _| .number .. =>true
 |_=>false
def Live(V:World)(b:Nat):Prop:=∃o,V.heap[b]? =some o/\liveO o=true
section
variable (ρ:Nat->Nat)(L:Nat->Prop)
inductive DsRel:List Deferred->List Deferred->Prop
 |nil:DsRel [] []
 |cons {r ds ds'}:L r->DsRel ds ds'->DsRel ({target:= .collected r,args:= #[]}::ds) ({target:= .collected (ρ r),args:= #[]}::ds')
structure ERel(e e':MapEntry):Prop where
 key:VRel ρ L e.key e'.key
 val:VRel ρ L e.val e'.val
 born:e.born=e'.born
inductive EsRel:List MapEntry->List MapEntry->Prop
 |nil:EsRel [] []
 |cons {e e' es es'}:ERel ρ L e e'->EsRel es es'->EsRel (e::es) (e'::es')
structure LRel(l l':Loop):Prop where
 state:l.state=l'.state
 pending:l.pending=l'.pending
 fn:l.fn=l'.fn
 tmps:AR ρ L l.tmps l'.tmps
 params:l.params=l'.params
 assign:l.assign=l'.assign
 body:l.body=l'.body
 defers:L l.defers/\l'.defers=ρ l.defers
inductive ORel(x:Bool):Obj->Obj->Prop
 |cells {c c' e f f'}:AR ρ L c c'->(x=true->f'=f)->ORel x (.cells c e f) (.cells c' e f')
 |map {es es':Array MapEntry} {clock}:EsRel ρ L es.toList es'.toList->ORel x (.map es clock) (.map es' clock)
 |stringIter (s p):ORel x (.stringIter s p) (.stringIter s p)
 |mapIter {m since seen stepped}:(∀r,m=some r->L r)->ORel x (.mapIter m since seen stepped) (.mapIter (m.map ρ) since seen stepped)
 |loop {l l'}:LRel ρ L l l'->ORel x (.loop l) (.loop l')
 |number {a lost}:L a.block->ORel x (.number a lost) (.number (Zl ρ a) lost)
 |noDefers:ORel x (.deferred none) (.deferred none)
 |deferred:ORel x (.deferred (some [])) (.deferred (some []))
end
section
variable {ρ:Nat->Nat}{L:Nat->Prop}
theorem DsRel.mono{a b:List Deferred}(h:DsRel ρ L a b)(hL:∀b,L b->L' b/\ρ' b=ρ b):DsRel ρ' L' a b:=by
 induction h with
 |nil=>exact .nil
 |cons h _ ih=>rw[<-(hL _ h).2];exact .cons (hL _ h).1 ih
theorem DsRel.append{a a' b b':List Deferred}(h:DsRel ρ L a a')(hb:DsRel ρ L b b'):DsRel ρ L (a++b) (a'++b'):=by
 induction h with
 |nil=>exact hb
 |cons h _ ih=>exact .cons h ih
theorem EsRel.mono{a b:List MapEntry}(h:EsRel ρ L a b)(hL:∀b,L b->L' b/\ρ' b=ρ b):EsRel ρ' L' a b:=by
 induction h with
 |nil=>exact .nil
 |cons h _ ih=>exact .cons ⟨h.1.mono hL,h.2.mono hL,h.3⟩ ih
theorem LRel.mono{a b:Loop}(h:LRel ρ L a b)(hL:∀b,L b->L' b/\ρ' b=ρ b):LRel ρ' L' a b:=
 ⟨h.state,h.pending,h.fn,h.tmps.mono hL,h.params,h.assign,h.body,(hL _ h.defers.1).1,by rw[h.defers.2,(hL _ h.defers.1).2]⟩
theorem ORel.mono{x:Bool}{a b:Obj}(h:ORel ρ L x a b)(hL:∀b,L b->L' b/\ρ' b=ρ b):ORel ρ' L' x a b:=by
 cases h with
 |cells h1 h2=>exact .cells (h1.mono hL) h2
 |map h=>exact .map (h.mono hL)
 |stringIter s p=>exact .stringIter s p
 | @mapIter m _ _ _ h=>
   have e:m.map ρ=m.map ρ':=by cases m with|none=>rfl|some r=>simp[(hL r (h r rfl)).2]
   rw[e];exact .mapIter λr hr=>(hL r (h r hr)).1
 |loop h=>exact .loop (h.mono hL)
 | @number a _ h=>
   have:Zl ρ a=Zl ρ' a:=by simp[Zl,(hL _ h).2]
   rw[this];exact .number (hL _ h).1
 |noDefers=>exact .noDefers
 |deferred=>exact .deferred
theorem ORel.live{x:Bool}{a b:Obj}(h:ORel ρ L x a b):liveO a=true:=by cases h<;>rfl
theorem ORel.isChan{x:Bool}{a b:Obj}(h:ORel ρ L x a b):b.isChan=false:=by cases h<;>rfl
end
section
variable [Ban]
def Bad:Halt->Prop
 | .stuck _=>True
 | .unsupported (.initOrder _)=>False
 | .unsupported _=>True
 |_=>False
inductive SEqv(P' P:Program)(Λ:Loop->Prop)(K:(Nat->Prop)->Prop)(ρ:Nat->Nat){α β:Type}(A:(Nat->Prop)->α->β->Prop):(Nat->Prop)->(Nat->Prop)->Sem α->Sem β->Prop
 |pure {L N a b}:A L a b->SEqv P' P Λ K ρ A L N (.pure a) (.pure b)
 |load {L N a k k'}:L a.block->(∀L' v v',(∀b,L b->L' b)->K L'->VRel ρ L' v v'->SEqv P' P Λ K ρ A L' N (k v) (k' v'))->SEqv P' P Λ K ρ A L N (.load .plain a k) (.load .plain (Zl ρ a) k')
 |store {L N a v v' k k'}:L a.block->VRel ρ L v v'->SEqv P' P Λ K ρ A L N k k'->SEqv P' P Λ K ρ A L N (.store .plain a v k) (.store .plain (Zl ρ a) v' k')
 |new {L N o o' k k'}:ORel ρ L true o o'->(∀l,o= .loop l->Λ l)->(∀r,K (λb=>L b\/b=r)->SEqv P' P Λ K ρ A (λb=>L b\/b=r) (λb=>N b\/b=r) (k r) (k' (ρ r)))->SEqv P' P Λ K ρ A L N (.new o k) (.new o' k')
 |shape {L N r k k'}:L r->(∀s,SEqv P' P Λ K ρ A L N (k s) (k' s))->SEqv P' P Λ K ρ A L N (.shape r k) (.shape (ρ r) k')
 |freeze {L N a n k k'}:N a.block->SEqv P' P Λ K ρ A L N k k'->SEqv P' P Λ K ρ A L N (.freeze a n k) (.freeze (Zl ρ a) n k')
 |getObj {L N r k k'}:L r->(∀L' o o',(∀b,L b->L' b)->K L'->ORel ρ L' true o o'->(∀l,o= .loop l->Λ l)->SEqv P' P Λ K ρ A L' N (k o) (k' o'))->SEqv P' P Λ K ρ A L N (.getObj r k) (.getObj (ρ r) k')
 |setObj {L N r o o' k k'}:L r->ORel ρ L true o o'->(∀l,o= .loop l->Λ l)->(∀c e f,o≠.cells c e f)->SEqv P' P Λ K ρ A L N k k'->SEqv P' P Λ K ρ A L N (.setObj r o k) (.setObj (ρ r) o' k')
 |choose {L N q k k'}:(∀n,SEqv P' P Λ K ρ A L N (k n) (k' n))->SEqv P' P Λ K ρ A L N (.choose q k) (.choose q k')
 |program {L N k k'}:SEqv P' P Λ K ρ A L N (k P') (k' P)->SEqv P' P Λ K ρ A L N (.program k) (.program k')
 |room {L N k k'}:SEqv P' P Λ K ρ A L N k k'->SEqv P' P Λ K ρ A L N (.mark .noRoom k) (.mark .noRoom k')
 |panic {L N v v'}:VRel ρ L v v'->SEqv P' P Λ K ρ A L N (.halt (.panic v)) (.halt (.panic v'))
 |bad {L N h Y}:Bad h->SEqv P' P Λ K ρ A L N (.halt h) Y
 |shapeL {L N r k Y}:(∀s,SEqv P' P Λ K ρ A L N (k s) Y)->SEqv P' P Λ K ρ A L N (.shape r k) Y
 |programL {L N k Y}:SEqv P' P Λ K ρ A L N (k P') Y->SEqv P' P Λ K ρ A L N (.program k) Y
 |frozenL {L N a k Y}:(∀s,SEqv P' P Λ K ρ A L N (k s) Y)->SEqv P' P Λ K ρ A L N (.frozen a k) Y
 |mark {L N m h Y}:Bad h->SEqv P' P Λ K ρ A L N (.mark m (.halt h)) Y
section
variable {P' P:Program}{K:(Nat->Prop)->Prop}{ρ:Nat->Nat}{α β γ δ:Type}{A:(Nat->Prop)->α->β->Prop}{B:(Nat->Prop)->γ->δ->Prop}{L N:Nat->Prop}
theorem SEqv.bind{X:Sem α}{Y:Sem β}{f:α->Sem γ}{g:β->Sem δ}(h:SEqv P' P Λ K ρ A L N X Y):
 K L->(∀a b L' N',(∀x,L x->L' x)->(∀x,N x->N' x)->K L'->A L' a b->SEqv P' P Λ K ρ B L' N' (f a) (g b))->SEqv P' P Λ K ρ B L N (X>>=f) (Y>>=g):=by
 show _->_->SEqv P' P Λ K ρ B L N (X.bind f) (Y.bind g)
 induction h with
 |pure h=>exact λhK hf=>hf _ _ _ _ (λ_ h=>h) (λ_ h=>h) hK h
 |load hl _ ih=>exact λ_ hf=> .load hl λL' v v' hL hK hv=>ih L' v v' hL hK hv hK λa b L'' N' h1 h2 hK h3=>hf a b L'' N' (λx hx=>h1 x (hL x hx)) h2 hK h3
 |store hl hv _ ih=>exact λhK hf=> .store hl hv (ih hK hf)
 |new ho hn _ ih=>exact λ_ hf=> .new ho hn λr hK=>ih r hK hK λa b L' N' hl hn hK Cy=>hf a b L' N' (λx hx=>hl x (.inl hx)) (λx hx=>hn x (.inl hx)) hK Cy
 |shape hr _ ih=>exact λhK hf=> .shape hr λs=>ih s hK hf
 |freeze hb _ ih=>exact λhK hf=> .freeze hb (ih hK hf)
 |getObj hr _ ih=>exact λ_ hf=> .getObj hr λL' o o' hL hK ho Gj=>ih L' o o' hL hK ho Gj hK λa b L'' N' h1 h2 hK h3=>hf a b L'' N' (λx hx=>h1 x (hL x hx)) h2 hK h3
 |setObj hr ho hn hc _ ih=>exact λhK hf=> .setObj hr ho hn hc (ih hK hf)
 |choose _ ih=>exact λhK hf=> .choose λn=>ih n hK hf
 |program _ ih=>exact λhK hf=> .program (ih hK hf)
 |room _ ih=>exact λhK hf=> .room (ih hK hf)
 |panic h=>exact λ_ _=> .panic h
 |bad h=>exact λ_ _=> .bad h
 |shapeL _ ih=>exact λhK hf=> .shapeL λs=>ih s hK hf
 |programL _ ih=>exact λhK hf=> .programL (ih hK hf)
 |frozenL _ ih=>exact λhK hf=> .frozenL λs=>ih s hK hf
 |mark h=>exact λ_ _=> .mark h
theorem SEqv.imp{X:Sem α}{Y:Sem β}{A':(Nat->Prop)->α->β->Prop}(h:SEqv P' P Λ K ρ A L N X Y):(∀L a b,A L a b->A' L a b)->SEqv P' P Λ K ρ A' L N X Y:=by
 induction h with
 |pure h=>exact λhf=> .pure (hf _ _ _ h)
 |load hl _ ih=>exact λhf=> .load hl λL' v v' hL hK hv=>ih L' v v' hL hK hv hf
 |store hl hv _ ih=>exact λhf=> .store hl hv (ih hf)
 |new ho hn _ ih=>exact λhf=> .new ho hn λr hK=>ih r hK hf
 |shape hr _ ih=>exact λhf=> .shape hr λs=>ih s hf
 |freeze hb _ ih=>exact λhf=> .freeze hb (ih hf)
 |getObj hr _ ih=>exact λhf=> .getObj hr λL' o o' hL hK ho Gj=>ih L' o o' hL hK ho Gj hf
 |setObj hr ho hn hc _ ih=>exact λhf=> .setObj hr ho hn hc (ih hf)
 |choose _ ih=>exact λhf=> .choose λn=>ih n hf
 |program _ ih=>exact λhf=> .program (ih hf)
 |room _ ih=>exact λhf=> .room (ih hf)
 |panic h=>exact λ_=> .panic h
 |bad h=>exact λ_=> .bad h
 |shapeL _ ih=>exact λhf=> .shapeL λs=>ih s hf
 |programL _ ih=>exact λhf=> .programL (ih hf)
 |frozenL _ ih=>exact λhf=> .frozenL λs=>ih s hf
 |mark h=>exact λ_=> .mark h
end
structure Emb(ρ:Nat->Nat)(G:Nat)(Fz:Nat->Prop)(V w:World):Prop where
 obj:∀(b:Nat)(o:Obj),V.heap[b]? =some o->liveO o=true->∃o',w.heap[ρ b]? =some o'/\(¬Fz b->ORel ρ (Live V) true o o')/\
  (Fz b->ORel ρ (Live V) false o o'/\∃c e hi,o= .cells c e (0,hi)/\c.size<=hi)
 inj:∀b b',Live V b->Live V b'->ρ b=ρ b'->b=b'
 fz:∀b,Fz b->b<V.heap.size
 low:∀b,Live V b->(ρ b<G↔b<G)
 gV:G<=V.heap.size
 gw:G<=w.heap.size
structure Sim0(ρ:Nat->Nat)(G:Nat)(Fz:Nat->Prop)(V w:World):Prop extends Emb ρ G Fz V w where
 next:∀j,ρ (V.heap.size+j)=w.heap.size+j
structure Sim(ρ:Nat->Nat)(G:Nat)(Fz:Nat->Prop)(V w:World):Prop extends Sim0 ρ G Fz V w where
 tape:∀i,V.tape (V.drawn+i)=w.tape (w.drawn+i)
def Good(ρ:Nat->Nat)(G:Nat)(L:Nat->Prop):Prop:=(∀b b',L b->L b'->ρ b=ρ b'->b=b')/\∀b,L b->(ρ b<G↔b<G)
def EvOk(ρ:Nat->Nat)(Fz:Nat->Prop)(V:World)(e:Event):Prop:=
 (∃a wr,e=⟨.cell (Zl ρ a),wr,false⟩/\Live V a.block/\(wr=true->¬Fz a.block))\/
 (∃r wr,e=⟨.obj (ρ r),wr,false⟩/\Live V r/\¬Fz r)\/e=⟨.mark .noRoom,false,true⟩
def big:Value->Bool
 | .tuple _| .agg _=>true
 |_=>false
structure Foot(ρ:Nat->Nat)(Fz:Nat->Prop)(V w V' w':World)(new:Array Event):Prop where
 live:∀b,Live V b->Live V' b
 newly:∀b,Live V' b->Live V b\/V.heap.size<=b
 vsize:V.heap.size<=V'.heap.size
 size:w.heap.size<=w'.heap.size
 stay:∀r,r<w.heap.size->(∀b,Live V b->¬Fz b->ρ b≠r)->w'.heap[r]? =w.heap[r]?
 evs:∀e∈new,EvOk ρ Fz V' e
 tape:w'.tape=w.tape
 os:w'.os=w.os
 output:w'.output=w.output
 drawn:w.drawn<=w'.drawn
 /-- A cell of the solo world with such a value:neither was written. -/
 dark:∀a x,Live V a.block->V'.cell? a=some x->big x=true->V.cell? a=some x/\w'.cell? (Zl ρ a)=w.cell? (Zl ρ a)
section
variable {ρ:Nat->Nat}{es es':Array Event}
theorem Foot.refl(V w:World):Foot ρ Fz V w V w #[]:=⟨λ_ h=>h,λ_ h=> .inl h,XB _,XB _,λ_ _ _=>rfl,λe he=>by simp at he,rfl,rfl,rfl,XB _,λ_ _ _ h _=>⟨h,rfl⟩⟩
theorem EvOk.mono(h:∀b,Live V b->Live V' b){e:Event}(he:EvOk ρ Fz V e):EvOk ρ Fz V' e:=by
 rcases he with⟨a,wr,e,hl,hf⟩|⟨r,wr,e,hl,hf⟩|e
 ·exact .inl ⟨a,wr,e,h _ hl,hf⟩
 ·exact .inr (.inl ⟨r,wr,e,h _ hl,hf⟩)
 ·exact .inr (.inr e)
theorem Foot.trans(hn:∀j,ρ (V.heap.size+j)=w.heap.size+j)(h:Foot ρ Fz V w V' w' es)(h':Foot ρ Fz V' w' V'' w'' es'):Foot ρ Fz V w V'' w'' (es++es'):=by
 refine⟨λb hb=>h'.live b (h.live b hb),λb hb=> ?_,XD h.vsize h'.vsize,XD h.size h'.size,λr hr hs=> ?_,λe he=> ?_,h'.tape.trans h.tape,h'.os.trans h.os,h'.output.trans h.output,XD h.drawn h'.drawn,λa x hl hx hb=> ?_⟩
 ·rcases h'.newly b hb with hb|hb
  ·exact h.newly b hb
  ·exact .inr (XD h.vsize hb)
 ·rw[h'.stay r (YS hr h.size) λb hb hf he=> ?_,h.stay r hr hs];rcases h.newly b hb with hb|hb
  ·exact hs b hb hf he
  ·have:=hn (b - V.heap.size);rw[Nat.add_sub_cancel' hb] at this;omega
 ·rcases UL.1 he with he|he
  ·exact(h.evs e he).mono h'.live
  ·exact h'.evs e he
 ·obtain⟨h1,h2⟩:=h'.dark a x (h.live _ hl) hx hb;obtain⟨h3,h4⟩:=h.dark a x hl h1 hb;exact⟨h3,h2.trans h4⟩
theorem Live.lt{b:Nat}(h:Live V b):b<V.heap.size:=by
 obtain⟨o,ho,_⟩:=h;exact(YF.1 ho).1
theorem Emb.lt{G:Nat}(h:Emb ρ G Fz V w){b:Nat}(hb:Live V b):ρ b<w.heap.size:=by
 obtain⟨o,ho,hl⟩:=hb;obtain⟨o',hw,_⟩:=h.obj b o ho hl;exact(YF.1 hw).1
theorem ORel.weaken{L:Nat->Prop}{a b:Obj}(h:ORel ρ L true a b):ORel ρ L false a b:=by
 cases h with
 |cells h1 h2=>exact .cells h1 (λh=>by cases h)
 |map h=>exact .map h
 |stringIter=>exact .stringIter ..
 |mapIter h=>exact .mapIter h
 |loop h=>exact .loop h
 |number h=>exact .number h
 |noDefers=>exact .noDefers
 |deferred=>exact .deferred
end
section
variable {ρ:Nat->Nat}{G:Nat}
theorem Emb.get(h:Emb ρ G Fz V w){b:Nat}{o:Obj}(hb:V.heap[b]? =some o)(hl:liveO o=true):∃o',w.heap[ρ b]? =some o'/\ORel ρ (Live V) false o o'/\(¬Fz b->ORel ρ (Live V) true o o'):=by
 obtain⟨o',hw,h1,h2⟩:=h.obj b o hb hl;refine⟨o',hw,?_,h1⟩;by_cases hf:Fz b
 ·exact(h2 hf).1
 ·exact(h1 hf).weaken
theorem Z3g{b:Nat}{o:Obj}(h:Emb ρ G Fz V w)(hb:V.heap[b]? =some o)(hl:liveO o=true)(hc:∀c e f,o≠.cells c e f):¬Fz b:=λhf=>by
 obtain⟨o',hw,_,h2⟩:=h.obj b o hb hl;obtain⟨_,c,e,hi,rfl,_⟩:=h2 hf;exact hc _ _ _ rfl
theorem Emb.cells(h:Emb ρ G Fz V w){b:Nat}{c:Array Value}{e:TypeId}{f:Nat×Nat}(hb:V.heap[b]? =some (.cells c e f)):
 ∃c' f',w.heap[ρ b]? =some (.cells c' e f')/\AR ρ (Live V) c c'/\(¬Fz b->f'=f):=by
 obtain⟨o',hw,h1,h2⟩:=h.get hb rfl;cases h1 with
 |cells ha _=>
  refine⟨_,_,hw,ha,λhf=> ?_⟩;have:=h2 hf;cases this with
  |cells _ hx=>exact hx rfl
theorem Z3h{a:Addr}{v:Value}(h:V.cell? a=some v):∃c e f,V.heap[a.block]? =some (.cells c e f)/\a.spot=none/\c[a.off]? =some v:=by
 unfold World.cell? at h;split at h
 ·rename_i c e f hb;split at h
  ·cases h
  ·rename_i hs;exact⟨c,e,f,hb,by simpa using hs,h⟩
 ·cases h
theorem Emb.cell(h:Emb ρ G Fz V w){a:Addr}{v:Value}(hv:V.cell? a=some v):∃v',w.cell? (Zl ρ a)=some v'/\VRel ρ (Live V) v v':=by
 obtain⟨c,e,f,hb,hs,hc⟩:=Z3h hv;obtain⟨c',f',hw,ha,_⟩:=h.cells hb;obtain⟨v',hv',hr⟩:=ha.get hc;exact⟨v',by simp[World.cell?,Zl,hw,hs,hv'],hr⟩
theorem Z2S{a:Addr}(h:Live V a.block)(s:String):V.noCell a s= .stuck s:=by
 obtain⟨o,ho,hl⟩:=h;unfold World.noCell;rw[ho];cases o<;>simp[liveO] at hl<;>rfl
theorem Z3i{a:Addr}(h:Live V a.block)(P:Program)(m:Bool):V.farLoad P a m= .error (.stuck "load: no such cell"):=by
 have h0:=Z2S h "load: no such cell";obtain⟨o,ho,hl⟩:=h;unfold World.farLoad;rw[ho];cases o<;>simp[liveO] at hl<;>simp only[h0]
theorem Z5d{a:Addr}(h:Live V a.block)(P:Program)(v:Value)(m:Bool):V.farStore P a v m= .error (.stuck "store: no such cell"):=by
 have h0:=Z2S h "store: no such cell";obtain⟨o,ho,hl⟩:=h;unfold World.farStore;rw[ho];cases o<;>simp[liveO] at hl<;>simp only[h0]
theorem Z3X{b:Nat}{c:Array Value}{e:TypeId}{f:Nat×Nat}(h:V.heap[b]? =some (.cells c e f)):Live V b:=⟨_,h,rfl⟩
theorem Z5e{b:Nat}{o o':Obj}(hb:V.heap[b]? =some o)(hl:liveO o=true)(hl':liveO o'=true)(x:Nat):
 Live {V with heap:=V.heap.setIfInBounds b o'} x↔Live V x:=by
 have A3:=(YF.1 hb).1;by_cases hx:b=x
 ·subst hx;exact⟨λ_=>⟨o,hb,hl⟩,λ_=>⟨o',by rw[YM A3],hl'⟩⟩
 ·unfold Live;simp only[YO hx]
theorem Sim0.turn(h:Sim0 ρ G Fz V w){b:Nat}{o o1 o2:Obj}(hb:V.heap[b]? =some o)(hl:liveO o=true)(hf:¬Fz b)(hr:ORel ρ (Live V) true o1 o2):
 Sim0 ρ G Fz {V with heap:=V.heap.setIfInBounds b o1} {w with heap:=w.heap.setIfInBounds (ρ b) o2}:=by
 have By:=Z5e hb hl hr.live;have A3:=(YF.1 hb).1;obtain⟨ow,hw,_,_⟩:=h.get hb hl;have Nh:=(YF.1 hw).1;have hm:∀x,Live V x->Live {V with heap:=V.heap.setIfInBounds b o1} x/\ρ x=ρ x:=λx hx=>⟨(By x).2 hx,rfl⟩
 refine{obj:=λx y hy Ib=> ?_,inj:=λx y hx hy=>h.inj x y ((By x).1 hx) ((By y).1 hy),fz:=λx hx=>by simpa using h.fz x hx,low:=λx hx=>h.low x ((By x).1 hx),gV:=by simpa using h.gV,gw:=by simpa using h.gw,next:=λj=>by simpa using h.next j};by_cases hx:b=x
 ·subst hx;rw[YM A3] at hy;cases hy;exact⟨o2,by rw[YM Nh],λ_=>hr.mono hm,λx=>absurd x hf⟩
 ·rw[YO hx] at hy;have A9:ρ b≠ρ x:=λe=>hx (h.inj b x ⟨o,hb,hl⟩ ⟨y,hy,Ib⟩ e)
  obtain⟨o',hw',h1,h2⟩:=h.obj x y hy Ib;exact⟨o',by rw[YO A9];exact hw',λhf=>(h1 hf).mono hm,λhf=>⟨(h2 hf).1.mono hm,(h2 hf).2⟩⟩
theorem Sim.turn(h:Sim ρ G Fz V w){b:Nat}{o o1 o2:Obj}(hb:V.heap[b]? =some o)(hl:liveO o=true)(hf:¬Fz b)(hr:ORel ρ (Live V) true o1 o2):
 Sim ρ G Fz {V with heap:=V.heap.setIfInBounds b o1} {w with heap:=w.heap.setIfInBounds (ρ b) o2}:=⟨h.toSim0.turn hb hl hf hr,h.tape⟩
theorem Z2T{b:Nat}{a:Addr}(h:b≠a.block):World.cell? {V with heap:=V.heap.setIfInBounds b o1} a=V.cell? a:=by
 unfold World.cell?;rw[YO h]
theorem Z3j(V:World)(a x:Addr)(n:Nat):(V.freeze a n).cell? x=V.cell? x:=by
 unfold World.freeze;split
 ·rfl
 ·unfold World.cell?;rw[Array.getElem?_modify];by_cases h:a.block=x.block
  ·rw[YZ h];cases V.heap[x.block]? with
   |none=>rfl
   |some o=>cases o<;>rfl
  ·rw[XA h]
theorem Z2g{b:Nat}{o:Obj}(hb:V.heap[b]? =some o)(hl:liveO o=true)(hf:¬Fz b)(hl':liveO o1=true){new:Array Event}
 (hn:∀e∈new,EvOk ρ Fz V e)(inj:∀x,Live V x->ρ b=ρ x->b=x)
 (hd:∀a x,a.block=b->World.cell? {V with heap:=V.heap.setIfInBounds b o1} a=some x->big x=true->V.cell? a=some x/\World.cell? {w with heap:=w.heap.setIfInBounds (ρ b) o2} (Zl ρ a)=w.cell? (Zl ρ a)):Foot ρ Fz V w {V with heap:=V.heap.setIfInBounds b o1} {w with heap:=w.heap.setIfInBounds (ρ b) o2} new:=by
 have By:=Z5e hb hl hl'
 exact⟨λx hx=>(By x).2 hx,λx hx=> .inl ((By x).1 hx),by simp,by simp,λr hr hs=>YO (hs b ⟨o,hb,hl⟩ hf),λe he=>(hn e he).mono λx hx=>(By x).2 hx,rfl,rfl,rfl,XB _,λa x Kv hx Ht=>by
  by_cases e:a.block=b
  ·exact hd a x e hx Ht
  ·rw[Z2T (SC e)] at hx;refine⟨hx,Z2T λe2=>e (inj _ Kv ?_).symm⟩;exact e2⟩
theorem Z2D{es:Array Event}(hn:∀e∈es,EvOk ρ Fz V e):Foot ρ Fz V w V w es:=⟨λ_ h=>h,λ_ h=> .inl h,XB _,XB _,λ_ _ _=>rfl,hn,rfl,rfl,rfl,XB _,λ_ _ _ h _=>⟨h,rfl⟩⟩
theorem Z0R{a:Array Obj}{b:Nat}{o:Obj}(f:Obj->Obj)(h:a[b]? =some o):a.modify b f=a.setIfInBounds b (f o):=by
 obtain⟨A3,rfl⟩:=YF.1 h;apply QQ
 ·simp
 ·intro i h1 h2;simp only[Array.getElem_modify,Array.getElem_setIfInBounds (by simpa using h1)];split<;>simp_all
theorem Z1D{o:Obj}{x:Nat}(h:Live V x):Live {V with heap:=V.heap.push o} x:=by
 have A3:=h.lt;obtain⟨y,hy,Ib⟩:=h;exact⟨y,by rw[Array.getElem?_push,XA (by omega)];exact hy,Ib⟩
theorem Z1q{o:Obj}(hl:liveO o=true):Live {V with heap:=V.heap.push o} V.heap.size:=⟨o,by simp,hl⟩
theorem Z0A{o:Obj}{x:Nat}(h:Live {V with heap:=V.heap.push o} x)(hx:x≠V.heap.size):Live V x:=by
 obtain⟨y,hy,Ib⟩:=h;rw[Array.getElem?_push,XA hx] at hy;exact⟨y,hy,Ib⟩
theorem Sim.push(h:Sim ρ G Fz V w){o o':Obj}(hr:ORel ρ (Live V) true o o'):Sim ρ G Fz {V with heap:=V.heap.push o} {w with heap:=w.heap.push o'}:=by
 have h0:ρ V.heap.size=w.heap.size:=by simpa using h.next 0
 have hm:∀x,Live V x->Live {V with heap:=V.heap.push o} x/\ρ x=ρ x:=λx hx=>⟨Z1D hx,rfl⟩
 refine{obj:=λx y hy Ib=> ?_,inj:=λx y hx hy Cz=> ?_,fz:=λx hx=>by have:=h.fz x hx;simp;omega,low:=λx hx=> ?_,gV:=by have:=h.gV;simp;omega,gw:=by have:=h.gw;simp;omega,tape:=h.tape,next:=λj=> ?_}
 ·rw[Array.getElem?_push] at hy;split at hy
  ·rename_i hx;cases hy;subst hx;exact⟨o',by rw[h0];simp,λ_=>hr.mono hm,λhf=>absurd (h.fz _ hf) (by omega)⟩
  ·obtain⟨o'',hw,h1,h2⟩:=h.obj x y hy Ib;have A3:=(YF.1 hw).1;exact⟨o'',by rw[Array.getElem?_push,XA (by omega)];exact hw,λhf=>(h1 hf).mono hm,λhf=>⟨(h2 hf).1.mono hm,(h2 hf).2⟩⟩
 ·by_cases hx':x=V.heap.size<;>by_cases hy':y=V.heap.size
  ·omega
  ·have:=h.lt (Z0A hy hy');rw[hx',h0] at Cz;omega
  ·have:=h.lt (Z0A hx hx');rw[hy',h0] at Cz;omega
  ·exact h.inj x y (Z0A hx hx') (Z0A hy hy') Cz
 ·by_cases hx':x=V.heap.size
  ·have:=h.gV;have:=h.gw;rw[hx',h0];omega
  ·exact h.low x (Z0A hx hx')
 ·have:=h.next (j+1);simp only[Array.size_push];rw[show V.heap.size+1+j=V.heap.size+(j+1) from by omega,this];omega
theorem Z2U{o:Obj}{a:Addr}(h:a.block<V.heap.size):World.cell? {V with heap:=V.heap.push o} a=V.cell? a:=by
 unfold World.cell?;rw[Array.getElem?_push,XA (by omega)]
theorem Z8P(o o':Obj)(A3:∀b,Live V b->ρ b<w.heap.size):Foot ρ Fz V w {V with heap:=V.heap.push o} {w with heap:=w.heap.push o'} #[]:=by
 refine⟨λx hx=>Z1D hx,λx ⟨y,hy,Ib⟩=> ?_,by simp,by simp,λr hr _=> ?_,λe he=>by simp at he,rfl,rfl,rfl,XB _,λa x hl hx _=>⟨by rw[Z2U hl.lt] at hx;exact hx,Z2U (A3 _ hl)⟩⟩
 ·rw[Array.getElem?_push] at hy;split at hy
  ·right;omega
  ·exact .inl ⟨y,hy,Ib⟩
 ·show(w.heap.push _)[r]? =_;rw[Array.getElem?_push,XA (by omega)]
theorem Emb.shape(h:Emb ρ G Fz V w){r:Nat}(hl:Live V r):w.shape? (ρ r)=V.shape? r:=by
 obtain⟨o,ho,Ip⟩:=hl;obtain⟨o',hw,h1,_⟩:=h.get ho Ip;cases h1 with
 |cells ha _=>simp[World.shape?,hw,ho,ha.1]
 |_=>simp[World.shape?,hw,ho]
end
theorem ePA:(Mode.plain==Mode.atomic)=false:=rfl
def LoopsOk(Λ:Loop->Prop)(V:World):Prop:=∀(b:Nat)(l:Loop),V.heap[b]? =some (Obj.loop l)->Λ l
theorem LoopsOk.set(h:LoopsOk Λ V){o:Obj}(ho:∀l,o= .loop l->Λ l)(b:Nat):LoopsOk Λ {V with heap:=V.heap.setIfInBounds b o}:=by
 intro x l hx;have hx:(V.heap.setIfInBounds b o)[x]? =some (Obj.loop l):=hx;rw[Array.getElem?_setIfInBounds] at hx;split at hx
 ·split at hx
  ·exact ho l (YT hx)
  ·cases hx
 ·exact h x l hx
theorem LoopsOk.push{Λ:Loop->Prop}{V:World}(h:LoopsOk Λ V){o:Obj}(ho:∀l,o= .loop l->Λ l):LoopsOk Λ {V with heap:=V.heap.push o}:=by
 intro x l hx;have hx:(V.heap.push o)[x]? =some (Obj.loop l):=hx;rw[Array.getElem?_push] at hx;split at hx
 ·exact ho l (YT hx)
 ·exact h x l hx
def Both{α β:Type}(Λ:Loop->Prop)(ρ:Nat->Nat)(G:Nat)(Fz:Nat->Prop)(A:(Nat->Prop)->α->β->Prop)(V w:World)(es:Array Event)(x:Result α)(y:Result β×Array Event):Prop:=
 (∃h V1,x= .halt h V1/\Bad h)\/
 ∃V' w' new,Sim ρ G Fz V' w'/\LoopsOk Λ V'/\Foot ρ Fz V w V' w' new/\
  ((∃a b L,x= .ok a V'/\y=(.ok b w',es++new)/\(∀b,L b->Live V' b)/\A L a b)\/(∃v v',x= .halt (.panic v) V'/\y=(.halt (.panic v') w',es++new)/\VRel ρ (Live V') v v'))
section
variable {α β:Type}{ρ:Nat->Nat}{G:Nat}{A:(Nat->Prop)->α->β->Prop}{es:Array Event}
theorem Both.step{x:Result α}{y:Result β×Array Event}(hn:∀j,ρ (V.heap.size+j)=w.heap.size+j)(hf:Foot ρ Fz V w V1 w1 new){es':Array Event}(he:es'=es++new)
 (h:Both Λ ρ G Fz A V1 w1 es' x y):Both Λ ρ G Fz A V w es x y:=by
 subst he;rcases h with h|⟨V',w',new',hs,hl,hf',h⟩
 ·exact .inl h
 ·refine .inr ⟨V',w',new++new',hs,hl,hf.trans hn hf',?_⟩;rw[Array.append_assoc] at h;exact h
variable {P' P:Program}
theorem Good.sub{L:Nat->Prop}(h:Good ρ G L')(hL:∀b,L b->L' b):Good ρ G L:=⟨λb b' h1 h2=>h.1 b b' (hL b h1) (hL b' h2),λb hb=>h.2 b (hL b hb)⟩
theorem Emb.good(h:Emb ρ G Fz V w):Good ρ G (Live V):=⟨h.inj,h.low⟩
theorem SEqv.run{L N:Nat->Prop}{X:Sem α}{Y:Sem β}(h:SEqv P' P Λ (Good ρ G) ρ A L N X Y):
 ∀(V w:World)(es:Array Event),Sim ρ G Fz V w->LoopsOk Λ V->(∀b,L b->Live V b)->(∀b,N b->Live V b/\¬Fz b)->
  Both Λ ρ G Fz A V w es (X.run P' V) (Y.runT P w es):=by
 induction h with
 | @pure L N a b h=>
   intro V w es hS hΛ hL _;exact .inr ⟨V,w,#[],hS,hΛ,Foot.refl V w,.inl ⟨_,_,L,rfl,by simp[Sem.runT],hL,h⟩⟩
 | @load L N a k k' ha _ ih=>
   intro V w es hS hΛ hL hN;simp only[Sem.run,Sem.runT];cases hc:V.cell? a with
   |none=>
    simp only[Z3i (hL _ ha)];exact .inl ⟨_,_,rfl,trivial⟩
   |some v=>
    obtain⟨v',hw,hv⟩:=hS.cell hc;rw[hw];refine Both.step hS.next (Z2D (es:= #[⟨.cell (Zl ρ a),false,false⟩]) (λx hx=> ?_)) (by rw[ePA];simp) (ih (Live V) v v' hL hS.good hv V w _ hS hΛ (λ_ h=>h) hN);simp at hx;subst hx;exact .inl ⟨a,false,rfl,hL _ ha,λh=>by cases h⟩
 | @store L N a v v' k k' ha hv _ ih=>
   intro V w es hS hΛ hL hN;by_cases h1:∃c,v= .agg c
   ·obtain⟨c,rfl⟩:=h1;exact .inl ⟨.stuck "store: not the value of one cell",V,by rw[Sem.run],trivial⟩
   by_cases h2:∃c,v= .tuple c
   ·obtain⟨c,rfl⟩:=h2;exact .inl ⟨.stuck "store: not the value of one cell",V,by rw[Sem.run],trivial⟩
   have hX:(Sem.store .plain a v k).run P' V=(match V.cell? a with
    |some _=>if V.frozen? a then Result.halt (.unsupported (.unsafePointer "a write to bytes that a string shares")) V else k.run P' (V.setCell a v)
    |none=>match V.farStore P' a v (Mode.plain==Mode.atomic) with
     | .ok (w,_)=>k.run P' w
     | .error h=> .halt h V):=by
    cases v<;>first|rfl|exact absurd ⟨_,rfl⟩ h1|exact absurd ⟨_,rfl⟩ h2
   have hY:(Sem.store .plain (Zl ρ a) v' k').runT P w es=(match w.cell? (Zl ρ a) with
    |some _=>if w.frozen? (Zl ρ a) then(Result.halt (.unsupported (.unsafePointer "a write to bytes that a string shares")) w,es) else k'.runT P (w.setCell (Zl ρ a) v') (es.push ⟨.cell (Zl ρ a),true,Mode.plain==Mode.atomic⟩)
    |none=>match w.farStore P (Zl ρ a) v' (Mode.plain==Mode.atomic) with
     | .ok (w,touched)=>k'.runT P w (es++touched.toArray.map (⟨.cell ·,true,Mode.plain==Mode.atomic⟩))
     | .error h=>(.halt h w,es)):=by
    cases hv with
    |agg _ _=>exact absurd ⟨_,rfl⟩ h1
    |tuple _ _=>exact absurd ⟨_,rfl⟩ h2
    |hole _ _=>exact absurd ⟨[].toArray,rfl⟩ h2
    |_=>rfl
   rw[hX,hY];cases hc:V.cell? a with
   |none=>
    simp only[Z5d (hL _ ha)];exact .inl ⟨_,_,rfl,trivial⟩
   |some v0=>
    obtain⟨v0',Ni,_⟩:=hS.cell hc;simp only[Ni];obtain⟨c,e,f,hb,D7,Qu⟩:=Z3h hc;have Qv:a.off<c.size:=(YF.1 Qu).1;by_cases Kd:V.frozen? a=true
    ·simp only[Kd,XQ];exact .inl ⟨_,_,rfl,trivial⟩
    ·have Ch:¬Fz a.block:=λhF=>by
      obtain⟨_,_,_,h3⟩:=hS.obj _ _ hb rfl;obtain⟨_,c',e',hi,he,Bl⟩:=h3 hF;cases he;apply Kd;simp only[World.frozen?,hb];simp;omega
     obtain⟨c',f',Ic,har,hff⟩:=hS.cells hb;obtain rfl:=hff Ch;have hVf:V.frozen? a=false:=(by simpa using Kd);have Wl:w.frozen? (Zl ρ a)=false:=by
      have h0:=hVf;simp only[World.frozen?,hb] at h0;simp only[World.frozen?,Zl,Ic];exact h0
     simp only[hVf,Wl,YR,XZ];have e1:V.setCell a v={V with heap:=V.heap.setIfInBounds a.block (.cells (c.setIfInBounds a.off v) e f')}:=by
      simp only[World.setCell];rw[Z0R _ hb];simp[D7]
     have e2:w.setCell (Zl ρ a) v'={w with heap:=w.heap.setIfInBounds (ρ a.block) (.cells (c'.setIfInBounds a.off v') e f')}:=by
      simp only[World.setCell,Zl];rw[Z0R _ Ic];simp[D7]
     rw[e1,e2]
     have hr:ORel ρ (Live V) true (.cells (c.setIfInBounds a.off v) e f') (.cells (c'.setIfInBounds a.off v') e f'):=
      .cells (har.set _ (hv.mono λb hb=>⟨hL b hb,rfl⟩)) (λ_=>rfl)
     have hf:=Z2g (w:=w) (o1:= .cells (c.setIfInBounds a.off v) e f') (o2:= .cells (c'.setIfInBounds a.off v') e f') (new:= #[⟨.cell (Zl ρ a),true,false⟩]) (Fz:=Fz) (ρ:=ρ) hb rfl Ch rfl (λx hx=>by
      simp at hx;subst hx;exact .inl ⟨a,true,rfl,Z3X hb,λ_=>Ch⟩) (λx hx e=>hS.inj _ _ (Z3X hb) hx e) (λa0 x e hx Ht=>by
      have A3:=(YF.1 hb).1;have Nh:=(YF.1 Ic).1;have A9:a.off≠a0.off:=by
       intro eo;simp only[World.cell?,e,YM A3] at hx;split at hx
       ·cases hx
       ·rw[<-eo,YM Qv] at hx;cases hx;cases v<;>first|exact h1 ⟨_,rfl⟩|exact h2 ⟨_,rfl⟩|cases Ht
      constructor
      ·simp only[World.cell?,e,YM A3] at hx;simp only[World.cell?,e,hb];rw[YO A9] at hx;exact hx
      ·simp only[World.cell?,Zl,e,YM Nh,Ic];rw[YO A9])
     exact Both.step hS.next hf (by rw[ePA];simp) (ih _ _ _ (hS.turn hb rfl Ch hr) (hΛ.set (λl h=>by cases h) _) (λb h=>hf.live b (hL b h)) (λb h=>⟨hf.live b (hN b h).1,(hN b h).2⟩))
 | @new L N o o' k k' ho Kw _ ih=>
   intro V w es hS hΛ hL hN;simp only[Sem.run,Sem.runT];have h0:ρ V.heap.size=w.heap.size:=by simpa using hS.next 0
   have ho':ORel ρ (Live V) true o o':=ho.mono λb hb=>⟨hL b hb,rfl⟩
   have:=ih V.heap.size ((hS.push ho').good.sub λb hb=>hb.elim (λh=>Z1D (hL b h)) (λh=>h▸Z1q ho.live)) {V with heap:=V.heap.push o} {w with heap:=w.heap.push o'} es (hS.push ho') (hΛ.push Kw)
    (λb hb=>hb.elim (λh=>Z1D (hL b h)) (λh=>h▸Z1q ho.live))
    (λb hb=>hb.elim (λh=>⟨Z1D (hN b h).1,(hN b h).2⟩) (λh=>h▸⟨Z1q ho.live,λhf=>absurd (hS.fz _ hf) (by omega)⟩))
   rw[h0] at this;exact Both.step hS.next (Z8P o o' λb hb=>hS.lt hb) (by simp) this
 | @shape L N r k k' hr _ ih=>
   intro V w es hS hΛ hL hN;simp only[Sem.run,Sem.runT];rw[hS.shape (hL r hr)];exact ih _ V w es hS hΛ hL hN
 | @freeze L N a n k k' ha _ ih=>
   intro V w es hS hΛ hL hN;simp only[Sem.run,Sem.runT];obtain⟨⟨o,hb,hl⟩,Ch⟩:=hN _ ha;by_cases hn:n=0
   ·subst hn;simp only[World.freeze,XQ];exact ih V w es hS hΛ hL hN
   ·obtain⟨ow,Ic,_,h2⟩:=hS.get hb hl;have hr:=h2 Ch;have e1:∃o1 o2,ORel ρ (Live V) true o1 o2/\V.freeze a n={V with heap:=V.heap.setIfInBounds a.block o1}/\w.freeze (Zl ρ a) n={w with heap:=w.heap.setIfInBounds (ρ a.block) o2}/\∀l,o1= .loop l->o= .loop l:=by
     simp only[World.freeze,hn,XZ,Zl];rw[Z0R _ hb,Z0R _ Ic];cases hr with
     |cells h1 h3=>obtain rfl:=h3 rfl;exact⟨_,_,.cells h1 (λ_=>rfl),rfl,rfl,λl h=>by cases h⟩
     |map h=>exact⟨_,_,.map h,rfl,rfl,λl h=>by cases h⟩
     |stringIter=>exact⟨_,_,.stringIter ..,rfl,rfl,λl h=>by cases h⟩
     |mapIter h=>exact⟨_,_,.mapIter h,rfl,rfl,λl h=>by cases h⟩
     |loop h=>exact⟨_,_,.loop h,rfl,rfl,λl h=>h⟩
     |number h=>exact⟨_,_,.number h,rfl,rfl,λl h=>by cases h⟩
     |noDefers=>exact⟨_,_,.noDefers,rfl,rfl,λl h=>by cases h⟩
     |deferred=>exact⟨_,_,.deferred,rfl,rfl,λl h=>by cases h⟩
    obtain⟨o1,o2,hr',e1,e2,Gj⟩:=e1;rw[e1,e2]
    have hf:=Z2g (w:=w) (o2:=o2) (new:= #[]) (Fz:=Fz) (ρ:=ρ) hb hl Ch hr'.live (λe he=>by simp at he) (λx hx e=>hS.inj _ _ ⟨_,hb,hl⟩ hx e) (λa0 x e hx Ht=>by
     rw[<-e1,Z3j] at hx;exact⟨hx,by rw[<-e2,Z3j]⟩)
    exact Both.step hS.next hf (by simp) (ih _ _ _ (hS.turn hb hl Ch hr') (hΛ.set (λl h=>hΛ _ l (by rw[hb,Gj l h])) _) (λb h=>hf.live b (hL b h)) (λb h=>⟨hf.live b (hN b h).1,(hN b h).2⟩))
 | @getObj L N r k k' hr _ ih=>
   intro V w es hS hΛ hL hN;simp only[Sem.run,Sem.runT];obtain⟨o,hb,hl⟩:=hL r hr;by_cases hc:∃c e f,o= .cells c e f
   ·obtain⟨c,e,f,rfl⟩:=hc;rw[hb];exact .inl ⟨_,_,rfl,trivial⟩
   ·have Ch:=Z3g hS.toEmb hb hl (λc e f h=>hc ⟨c,e,f,h⟩);obtain⟨ow,Ic,_,h2⟩:=hS.get hb hl;have ho:=h2 Ch;rw[hb,Ic];have e1:∀(γ:Type)(x y:γ),(match o with| .cells .. =>x|_=>y)=y:=by
     intro γ x y;cases o<;>first|rfl|exact absurd ⟨_,_,_,rfl⟩ hc
    have:=ih (Live V) o ow hL hS.good ho (λl h=>hΛ r l (by rw[hb,h])) V w (es.push ⟨.obj (ρ r),false,false⟩) hS hΛ (λ_ h=>h) hN
    have Bb:∀x∈#[(⟨.obj (ρ r),false,false⟩:Event)],EvOk ρ Fz V x:=λx hx=>by
     simp at hx;subst hx;exact .inr (.inl ⟨r,false,rfl,⟨_,hb,hl⟩,Ch⟩)
    have Nj:=Both.step hS.next (Z2D (w:=w) Bb) (es:=es) (by simp) this;cases ho with
    |cells _ _=>exact absurd ⟨_,_,_,rfl⟩ hc
    |_=>exact Nj
 | @setObj L N r o o' k k' hr ho Kw Ft _ ih=>
   intro V w es hS hΛ hL hN;simp only[Sem.run,Sem.runT];obtain⟨o0,hb,hl⟩:=hL r hr;by_cases hc:∃c e f,o0= .cells c e f
   ·obtain⟨c,e,f,rfl⟩:=hc;rw[hb];exact .inl ⟨_,_,rfl,trivial⟩
   ·have Ch:=Z3g hS.toEmb hb hl (λc e f h=>hc ⟨c,e,f,h⟩);obtain⟨ow,Ic,_,h2⟩:=hS.get hb hl;have h0:=h2 Ch;rw[hb,Ic];have ho':ORel ρ (Live V) true o o':=ho.mono λb hb=>⟨hL b hb,rfl⟩
    have Wm:=ho.isChan
    have hf:=Z2g (w:=w) (o1:=o) (o2:=o') (new:= #[⟨.obj (ρ r),true,false⟩]) (Fz:=Fz) (ρ:=ρ) hb hl Ch ho.live (λx hx=>by
     simp at hx;subst hx;exact .inr (.inl ⟨r,true,rfl,⟨_,hb,hl⟩,Ch⟩)) (λx hx e=>hS.inj _ _ ⟨_,hb,hl⟩ hx e) (λa0 x e hx Ht=>by
     have A3:=(YF.1 hb).1;simp only[World.cell?,e,YM A3] at hx;split at hx
     ·rename_i h9;cases h9;exact absurd rfl (Ft _ _ _)
     ·cases hx)
    have Nj:=Both.step hS.next hf (es:=es) (es':=es.push ⟨.obj (ρ r),true,o'.isChan⟩) (by rw[Wm];simp) (ih _ _ _ (hS.turn hb hl Ch ho') (hΛ.set Kw _) (λb h=>hf.live b (hL b h)) (λb h=>⟨hf.live b (hN b h).1,(hN b h).2⟩));cases h0 with
    |cells _ _=>exact absurd ⟨_,_,_,rfl⟩ hc
    |_=>exact Nj
 | @choose L N q k k' _ ih=>
   intro V w es hS hΛ hL hN;simp only[Sem.run,Sem.runT];by_cases hq:q.forced=true
   ·simp only[hq,XQ];exact ih 0 V w es hS hΛ hL hN
   ·simp only[hq,XZ,YR];have hT:V.tape V.drawn q=w.tape w.drawn q:=(by have:=hS.tape 0;simp only[RV] at this;rw[this]);rw[hT]
    have hS':Sim ρ G Fz {V with drawn:=V.drawn+1} {w with drawn:=w.drawn+1}:=
     {obj:=hS.obj,inj:=hS.inj,fz:=hS.fz,low:=hS.low,gV:=hS.gV,gw:=hS.gw,tape:=λi=>by have:=hS.tape (1+i);simp only[<-TK] at this;exact this,next:=hS.next}
    have hf:Foot ρ Fz V w {V with drawn:=V.drawn+1} {w with drawn:=w.drawn+1} #[]:=⟨λ_ h=>h,λ_ h=> .inl h,XB _,XB _,λ_ _ _=>rfl,λe he=>by simp at he,rfl,rfl,rfl,Nat.le_succ _,λ_ _ _ h _=>⟨h,rfl⟩⟩;exact Both.step hS.next hf (by simp) (ih _ _ _ es hS' hΛ hL hN)
 | @program L N k k' _ ih=>
   intro V w es hS hΛ hL hN;simp only[Sem.run,Sem.runT];exact ih V w es hS hΛ hL hN
 | @room L N k k' _ ih=>
   intro V w es hS hΛ hL hN;simp only[Sem.run,Sem.runT];refine Both.step hS.next (Z2D (es:= #[⟨.mark .noRoom,false,true⟩]) (λx hx=> ?_)) (by simp) (ih V w _ hS hΛ hL hN);simp at hx;exact .inr (.inr hx)
 | @panic L N v v' hv=>
   intro V w es hS hΛ hL _;exact .inr ⟨V,w,#[],hS,hΛ,Foot.refl V w,.inr ⟨v,v',rfl,by simp[Sem.runT],hv.mono λb hb=>⟨hL b hb,rfl⟩⟩⟩
 | @bad L N h Y hb=>
   intro V w es _ _ _ _;exact .inl ⟨h,V,rfl,hb⟩
 | @shapeL L N r k Y _ ih=>
   intro V w es hS hΛ hL hN;simp only[Sem.run];exact ih _ V w es hS hΛ hL hN
 | @programL L N k Y _ ih=>
   intro V w es hS hΛ hL hN;simp only[Sem.run];exact ih V w es hS hΛ hL hN
 | @frozenL L N a k Y _ ih=>
   intro V w es hS hΛ hL hN;simp only[Sem.run];exact ih _ V w es hS hΛ hL hN
 | @mark L N m h Y hb=>
   intro V w es _ _ _ _;exact .inl ⟨h,V,rfl,hb⟩
end
end
end Go.Nk
