import Derived.Test.YthahddndgbpooaaGreatDoorNkA
import Derived.Test.YthahddndgbpooaaGreatDoorNk00
import Derived.Laws.Sem
set_option linter.all false
open Go
variable {a' cs z z':Array Value}{Λ:Loop->Prop}{ρ:Nat->Nat}{L:Nat->Prop}{P:Program}{s:String}
namespace Go.Nk
variable [Ban]
def Z6(P:Program)(fs:Array Func):Program:={P with funcs:=fs}
@[simp] theorem Z3Y (P:Program) (fs:Array Func) (t:TypeId):(Z6 P fs).info? t=P.info? t:=rfl
@[simp] theorem Z0J (P:Program) (fs:Array Func) (t:TypeId):(Z6 P fs).underlying t=P.underlying t:=rfl
@[simp] theorem Zpp (P:Program) (fs:Array Func):(Z6 P fs).rt=P.rt:=rfl
@[simp] theorem Zcz (P:Program) (fs:Array Func):(Z6 P fs).types=P.types:=rfl
@[simp] theorem Z4u (P:Program) (fs:Array Func):(Z6 P fs).globals=P.globals:=rfl
@[simp] theorem ZdK (P:Program) (fs:Array Func):(Z6 P fs).cutTypes=P.cutTypes:=rfl
@[simp] theorem Z3k (P:Program) (fs:Array Func):(Z6 P fs).depth=P.depth:=rfl
@[simp] theorem Z0B (P:Program) (fs:Array Func) (t:TypeId):(Z6 P fs).cellsOf t=P.cellsOf t:=rfl
@[simp] theorem Z0S (P:Program) (fs:Array Func) (t:TypeId):(Z6 P fs).bytesOf t=P.bytesOf t:=rfl
def plainV:Nat->Value->Bool
 |0,_=>false
 |_+1,.bool _|_+1,.int _ _|_+1,.string _|_+1,.nilFunc|_+1,.nilIface
 |_+1,.pointer none|_+1,.slice none _ _|_+1,.map none|_+1,.chan none=>true
 |n+1,.func (.func f) a c=> !Ban.ban f&&a.toList.all (plainV n)&&c.toList.all (plainV n)
 |n+1,.iface _ v=>plainV n v
 |n+1,.agg cs|n+1,.tuple cs=>cs.toList.all (plainV n)
 |_,_=>false
section
theorem Z34(h:∀v∈cs.toList,VRel ρ L v v):AR ρ L cs cs:=
 AR.mk rfl λi v v' h1 h2=>by
  rw[h1] at h2;cases h2;exact h v (SP.2 (Array.mem_of_getElem? h1))
theorem VRel.plain:∀{n:Nat}{v:Value},plainV n v=true->VRel ρ L v v:=by
 intro n
 induction n with
 |zero=>intro v h;simp[plainV] at h
 |succ n ih=>
  intro v h;cases v with
  |bool _|int _ _|string _|nilFunc|nilIface=>constructor
  |float _ _|complex _ _ _=>simp[plainV] at h
  |pointer a=>cases a with|none=>constructor|some _=>simp[plainV] at h
  |slice a _ _=>cases a with|none=>constructor|some _=>simp[plainV] at h
  |map a=>cases a with|none=>constructor|some _=>simp[plainV] at h
  |chan a=>cases a with|none=>constructor|some _=>simp[plainV] at h
  |func fn a c=>
   cases fn<;>simp only[plainV,YG,YL,YR,XR] at h
   have ha:=Z34 (ρ:=ρ) (L:=L) λv hv=>ih (h.1.2 v hv)
   have hc:=Z34 (ρ:=ρ) (L:=L) λv hv=>ih (h.2 v hv)
   exact .func h.1.1 ha.1 ha.2 hc.1 hc.2
  |iface t v=>simp only[plainV] at h;exact .iface t (ih h)
  |agg cs=>simp only[plainV,YL] at h;have ha:=Z34 (ρ:=ρ) (L:=L) λv hv=>ih (h v hv);exact .agg ha.1 ha.2
  |tuple cs=>simp only[plainV,YL] at h;have ha:=Z34 (ρ:=ρ) (L:=L) λv hv=>ih (h v hv);exact .tuple ha.1 ha.2
end
def Z1v(P:Program)(t:TypeId):Bool:=match P.info? t with|some i=>i.zero.all (plainV 3)|none=>true
abbrev VR(ρ:Nat->Nat)(L:Nat->Prop)(a b:Value):Prop:=VRel ρ L a b
abbrev EQ{α:Type}(_:Nat->Prop)(a b:α):Prop:=a=b
abbrev AdR(ρ:Nat->Nat)(L:Nat->Prop)(a b:Addr):Prop:=b=Zl ρ a/\L a.block
abbrev TT{α β:Type}(_:Nat->Prop)(_:α)(_:β):Prop:=True
def Q(P:Program)(fs:Array Func)(Λ:Loop->Prop)(G:Nat)(ρ:Nat->Nat)(L:Nat->Prop){α β:Type}(A:(Nat->Prop)->α->β->Prop)(X:Sem α)(Y:Sem β):Prop:=
 Good ρ G L->∀N,SEqv (Z6 P fs) P Λ (Good ρ G) ρ A L N X Y
section
variable {fs:Array Func}{G:Nat}
variable {α β γ δ:Type}{A:(Nat->Prop)->α->β->Prop}{B:(Nat->Prop)->γ->δ->Prop}
theorem Q.bind{X:Sem α}{Y:Sem β}{f:α->Sem γ}{g:β->Sem δ}(h:Q P fs Λ G ρ L A X Y)(hf:∀a b L',(∀x,L x->L' x)->A L' a b->Q P fs Λ G ρ L' B (f a) (g b)):Q P fs Λ G ρ L B (X>>=f) (Y>>=g):=
 λhK N=>(h hK N).bind hK λa b L' N' hL _ hK' Cy=>hf a b L' hL Cy hK' N'
theorem Q.pure{a:α}{b:β}(h:A L a b):Q P fs Λ G ρ L A (Pure.pure a) (Pure.pure b):=λ_ _=> .pure h
theorem Q.stuck{s:String}{Y:Sem β}:Q P fs Λ G ρ L A (stuck s:Sem α) Y:=λ_ _=> .bad trivial
theorem Q.unsupported{u:Unsupported}(hu:∀g,u≠.initOrder g){Y:Sem β}:Q P fs Λ G ρ L A (unsupported u:Sem α) Y:=λ_ _=> .bad (by cases u<;>first|trivial|exact absurd rfl (hu _))
theorem Q.imp{A':(Nat->Prop)->α->β->Prop}{X:Sem α}{Y:Sem β}(h:Q P fs Λ G ρ L A X Y)(ha:∀L a b,A L a b->A' L a b):Q P fs Λ G ρ L A' X Y:=λhK N=>(h hK N).imp ha
theorem Q.program{f:Program->Sem α}{g:Program->Sem β}(h:Q P fs Λ G ρ L A (f (Z6 P fs)) (g P)):Q P fs Λ G ρ L A (Go.program>>=f) (Go.program>>=g):=λhK N=> .program (h hK N)
theorem Q.bindStuck{f:γ->Sem α}{Y:Sem β}:Q P fs Λ G ρ L A ((Go.stuck s:Sem γ)>>=f) Y:=λ_ _=> .bad trivial
theorem Q.bindUnsupported{u:Unsupported}(hu:∀g,u≠.initOrder g){f:γ->Sem α}{Y:Sem β}:Q P fs Λ G ρ L A ((Go.unsupported u:Sem γ)>>=f) Y:=λ_ _=> .bad (by cases u<;>first|trivial|exact absurd rfl (hu _))
theorem Q.good{X:Sem α}{Y:Sem β}(h:Good ρ G L->Q P fs Λ G ρ L A X Y):Q P fs Λ G ρ L A X Y:=λhK=>h hK hK
theorem Q.choose{q:Question}:Q P fs Λ G ρ L EQ (Go.choose q) (Go.choose q):=λ_ _=> .choose λ_=> .pure rfl
theorem Z0n(t:TypeId):Q P fs Λ G ρ L (λ_ a b=>a=b/\P.info? t=some b) (typeInfo t) (typeInfo t):=by
 unfold typeInfo;refine Q.program ?_;simp only[Z3Y];cases P.info? t with
 |none=>exact Q.stuck
 |some i=>exact Q.pure ⟨rfl,rfl⟩
theorem Za(t:TypeId):Q P fs Λ G ρ L (λ_ a b=>a=b/\P.underlying t=some b) (underlying t) (underlying t):=by
 unfold Go.underlying;refine Q.program ?_;simp only[Z0J];cases P.underlying t with
 |none=>exact Q.stuck
 |some i=>exact Q.pure ⟨rfl,rfl⟩
theorem Z0e(t:TypeId):Q P fs Λ G ρ L EQ (sizeOf t) (sizeOf t):=(Z0n t).bind λ_ _ _ _ h=>Q.pure (by rw[EQ,h.1])
theorem Z8Q(t:TypeId):Q P fs Λ G ρ L EQ (isAgg t) (isAgg t):=by
 refine(Za t).bind ?_;rintro d _ L' _ ⟨rfl,_⟩;cases d<;>exact Q.pure rfl
theorem Z3Z(t:TypeId)(h:Z1v P t=true):Q P fs Λ G ρ L (VR ρ) (zeroValue t) (zeroValue t):=by
 refine(Z0n t).bind ?_;rintro i _ L' _ ⟨rfl,hi⟩;cases hz:i.zero with
 |none=>exact Q.unsupported (by simp)
 |some v=>
  refine Q.pure ?_;simp only[Z1v,hi,hz,Option.all_some] at h;exact VRel.plain h
theorem Zch(a:Addr)(ha:L a.block):Q P fs Λ G ρ L (VR ρ) (load a) (load (Zl ρ a)):=λ_ _=> .load ha λ_ _ _ _ _ hv=> .pure hv
theorem ZcA(a:Addr){v v':Value}(ha:L a.block)(hv:VRel ρ L v v'):Q P fs Λ G ρ L (TT (α:=Unit) (β:=Unit)) (store a v) (store (Zl ρ a) v'):=λ_ _=> .store ha hv (.pure trivial)
theorem Z17(a:Addr)(n:Nat):Zl ρ (a.add n)=(Zl ρ a).add n:=by
 unfold Addr.add Zl;split<;>rfl
theorem Z0v(a:Addr)(n:Nat):(a.add n).block=a.block:=by unfold Addr.add;split<;>rfl
theorem Z3l(a:Addr):∀(n:Nat)(i:Nat)(L:Nat->Prop)(acc acc':Array Value),L a.block->AR ρ L acc acc'->Q P fs Λ G ρ L (AR ρ) (loadCellsFrom a i n acc) (loadCellsFrom (Zl ρ a) i n acc'):=by
 intro n
 induction n with
 |zero=>exact λi L acc acc' _ h=>Q.pure h
 |succ n ih=>
  intro i L acc acc' ha h;unfold loadCellsFrom;rw[<-Z17];refine(Zch _ (by rw[Z0v];exact ha)).bind ?_;intro v v' L' hL hv;exact ih (i+1) L' _ _ (hL _ ha) ((h.up hL).push hv)
theorem Z3m(a:Addr)(n:Nat)(ha:L a.block):Q P fs Λ G ρ L (AR ρ) (loadCells a n) (loadCells (Zl ρ a) n):=Z3l a n 0 L #[] #[] ha AR.nil
inductive VsRel(ρ:Nat->Nat)(L:Nat->Prop):List Value->List Value->Prop
 |nil:VsRel ρ L [] []
 |cons {v v' vs vs'}:VRel ρ L v v'->VsRel ρ L vs vs'->VsRel ρ L (v::vs) (v'::vs')
theorem VsRel.of_get:∀{l l':List Value},l.length=l'.length->(∀(i:Nat)(v v':Value),l[i]? =some v->l'[i]? =some v'->VRel ρ L v v')->VsRel ρ L l l'
 |[],[],_,_=> .nil
 |[],_::_,h,_=>by simp at h
 |_::_,[],h,_=>by simp at h
 |v::l,v'::l',h,hg=> .cons (hg 0 v v' rfl rfl) (VsRel.of_get (by simpa using h) λi x x' h1 h2=>hg (i+1) x x' (by simpa using h1) (by simpa using h2))
theorem AR.list{a:Array Value}(h:AR ρ L a a'):VsRel ρ L a.toList a'.toList:=
 VsRel.of_get (by simpa using h.1) λi v v' h1 h2=>by
  simp only[Array.getElem?_toList] at h1 h2;obtain⟨y,hy,hr⟩:=h.get h1;rw[hy] at h2;cases h2;exact hr
theorem VsRel.up{L':Nat->Prop}{l l':List Value}(h:VsRel ρ L l l')(hL:∀b,L b->L' b):VsRel ρ L' l l':=by
 induction h with
 |nil=>exact .nil
 |cons h _ ih=>exact .cons (h.up hL) ih
theorem Z2V(a:Addr):∀{vs vs':List Value}(i:Nat)(L:Nat->Prop),L a.block->VsRel ρ L vs vs'->Q P fs Λ G ρ L (TT (α:=Unit) (β:=Unit)) (storeCells a vs i) (storeCells (Zl ρ a) vs' i):=by
 intro vs
 induction vs with
 |nil=>intro vs' i L _ h;cases h;exact Q.pure trivial
 |cons v vs ih=>
  intro vs' i L ha h;cases h with
  |cons h1 h2=>
   simp only[storeCells];rw[<-Z17];exact(ZcA _ (by rw[Z0v];exact ha) h1).bind λ_ _ L' hL _=>ih (i+1) L' (hL _ ha) (h2.up hL)
theorem Z5f(t:TypeId)(a:Addr)(ha:L a.block):Q P fs Λ G ρ L (VR ρ) (loadVar t a) (loadVar t (Zl ρ a)):=by
 unfold loadVar;refine(Z8Q t).bind ?_;rintro b _ L1 h1 rfl;cases b
 ·simp only[YR,XZ];exact Zch a (h1 _ ha)
 ·simp only[↓reduceIte];refine(Z0e t).bind ?_;rintro n _ L2 h2 rfl;refine(Z3m a n (h2 _ (h1 _ ha))).bind ?_;intro cs cs' L3 h3 h;exact Q.pure (.agg h.1 h.2)
theorem Z7S(t:TypeId)(a:Addr){v v':Value}(ha:L a.block)(hv:VRel ρ L v v'):Q P fs Λ G ρ L (TT (α:=Unit) (β:=Unit)) (storeVar t a v) (storeVar t (Zl ρ a) v'):=by
 unfold storeVar;refine(Z0e t).bind ?_;rintro n _ L1 h1 rfl;have hc:=hv.cells;rw[<-hc.1];split
 ·exact Q.bindStuck
 ·exact Z2V a 0 L1 (h1 _ ha) (hc.list.up h1)
theorem Z2h(e:TypeId){cs cs':Array Value}(h:AR ρ L cs cs'):Q P fs Λ G ρ L (AdR ρ) (newRow e cs) (newRow e cs'):=
 λ_ _=> .new (.cells h λ_=>rfl) (λ_ h=>by cases h) λ_ _=> .pure ⟨rfl,.inr rfl⟩
theorem Z72(t:TypeId){v v':Value}(hv:VRel ρ L v v'):Q P fs Λ G ρ L (AdR ρ) (newVar t v) (newVar t v'):=Z2h t hv.cells
theorem Z1E(t:TypeId){cs cs':Array Value}(h:AR ρ L cs cs')(off:Nat):Q P fs Λ G ρ L (VR ρ) (part t cs off) (part t cs' off):=by
 unfold part;refine(Z8Q t).bind ?_;rintro b _ L1 h1 rfl;cases b
 ·simp only[YR,XZ];cases hc:cs[off]? with
  |none=>exact Q.stuck
  |some v=>
   obtain⟨v',hv',hr⟩:=h.get hc;rw[hv'];exact Q.pure (hr.up h1)
 ·simp only[↓reduceIte];refine(Z0e t).bind ?_;rintro n _ L2 h2 rfl;have:=(h.up h1).up h2 |>.extract off (off+n)
  exact Q.pure (.agg this.1 this.2)
theorem Z2i{v v':Value}(h:VRel ρ L v v'):Q P fs Λ G ρ L (fun(_:Nat->Prop)(a b:IntKind×Int)=>a=b/\v= .int b.1 b.2/\v'=v) (asIntOf v) (asIntOf v'):=by
 cases h with
 |int k n=>exact Q.pure ⟨rfl,rfl,rfl⟩
 |ptr _=>exact Q.unsupported (by simp)
 |_=>exact Q.stuck
theorem Z4v{v v':Value}(h:VRel ρ L v v'):Q P fs Λ G ρ L EQ (asInt v) (asInt v'):=(Z2i h).bind λ_ _ _ _ h=>Q.pure (by rw[EQ,h.1])
theorem Z4w{v v':Value}(h:VRel ρ L v v'):Q P fs Λ G ρ L EQ (asBool v) (asBool v'):=by
 cases h with
 |bool b=>exact Q.pure rfl
 |_=>exact Q.stuck
theorem ZcB{v v':Value}(h:VRel ρ L v v'):Q P fs Λ G ρ L (AR ρ) (asAgg v) (asAgg v'):=by
 cases h with
 |agg h1 h2=>exact Q.pure ⟨h1,h2⟩
 |_=>exact Q.stuck
theorem Z2j{v v':Value}(h:VRel ρ L v v'):Q P fs Λ G ρ L A (goPanic v:Sem α) (goPanic v':Sem β):=λ_ _=> .panic h
def lightE:RuntimeError->Bool
 | .bounds .. | .error _| .plain _| .nilDeref=>true
 |_=>false
theorem Z02(e:RuntimeError)(h:lightE e=true):Q P fs Λ G ρ L A (runtimePanic e:Sem α) (runtimePanic e:Sem β):=by
 unfold runtimePanic;refine Q.program ?_;cases e with
 |bounds x y sg c=>exact Z2j (VRel.plain (n:=3) rfl)
 |error m=>exact Z2j (VRel.plain (n:=3) rfl)
 |plain m=>exact Z2j (VRel.plain (n:=3) rfl)
 |nilDeref=>exact Z2j (VRel.plain (n:=3) rfl)
 |typeAssertion _ _ _ _|panicNil|unhashable _=>simp[lightE] at h
theorem Z0C(k:IntKind)(x y:Int)(c:BoundsCode):Q P fs Λ G ρ L A (boundsPanic k x y c:Sem α) (boundsPanic k x y c:Sem β):=by
 unfold boundsPanic;dsimp only;split
 ·refine Q.bind (A:=EQ) (λ_ N=> .choose λn=> .pure rfl) ?_;intro a b L' _ h;subst h;exact Z02 _ rfl
 ·refine Q.bind (A:=EQ) (Q.pure rfl) ?_;intro a b L' _ h;subst h;exact Z02 _ rfl
theorem Z73{v v':Value}(h:VRel ρ L v v'):Q P fs Λ G ρ L (AdR ρ) (asAddr v) (asAddr v'):=by
 cases h with
 |ptr h=>exact Q.pure ⟨rfl,h⟩
 |nilPtr=>exact Z02 .nilDeref rfl
 |_=>exact Q.stuck
theorem Z1h{v v':Value}(h:VRel ρ L v v'):Q P fs Λ G ρ L (AdR ρ) (Instr.sureAddr v) (Instr.sureAddr v'):=by
 cases h with
 |ptr h=>exact Q.pure ⟨rfl,h⟩
 |_=>exact Q.stuck
theorem Z5g(n:Nat):Q P fs Λ G ρ L (TT (α:=Unit) (β:=Unit)) (askRoom n) (askRoom n):=by
 unfold askRoom;split
 ·exact λ_ _=> .room (.pure trivial)
 ·exact Q.pure trivial
end
section
variable {fs:Array Func}{G:Nat}
variable {α β γ δ:Type}{A:(Nat->Prop)->α->β->Prop}{B:(Nat->Prop)->γ->δ->Prop}
theorem ZcC(t:TypeId)(hz:Z1v P t=true):Q P fs Λ G ρ L (VR ρ) (Instr.alloc t true (.tuple #[])) (Instr.alloc t true (.tuple #[])):=by
 unfold Instr.alloc;refine(Z3Z t hz).bind ?_;intro z z' L1 h1 hz;refine(Z72 t hz).bind ?_;rintro a _ L2 h2 ⟨rfl,ha⟩;exact Q.pure (.ptr ha)
theorem q_box(t:TypeId){v v':Value}(hv:VRel ρ L v v'):Q P fs Λ G ρ L (VR ρ) (Instr.box t v) (Instr.box t v'):=by
 unfold Instr.box;refine(Z72 t hv).bind ?_;rintro a _ L2 h2 ⟨rfl,ha⟩;exact Q.pure (.ptr ha)
inductive PsRel(ρ:Nat->Nat)(L:Nat->Prop):List (Nat×Value)->List (Nat×Value)->Prop
 |nil:PsRel ρ L [] []
 |cons {i v v' ps ps'}:VRel ρ L v v'->PsRel ρ L ps ps'->PsRel ρ L ((i,v)::ps) ((i,v')::ps')
theorem PsRel.up{L':Nat->Prop}{l l':List (Nat×Value)}(h:PsRel ρ L l l')(hL:∀b,L b->L' b):PsRel ρ L' l l':=by
 induction h with
 |nil=>exact .nil
 |cons h _ ih=>exact .cons (h.up hL) ih
theorem Z8R(off:Nat):∀{l l':List Value}(k:Nat){cs cs':Array Value},VsRel ρ L l l'->AR ρ L cs cs'->
 AR ρ L ((l.zipIdx k).foldl (λcs (x:Value×Nat)=>cs.setIfInBounds (off+x.2) x.1) cs) ((l'.zipIdx k).foldl (λcs (x:Value×Nat)=>cs.setIfInBounds (off+x.2) x.1) cs'):=by
 intro l
 induction l with
 |nil=>intro l' k cs cs' h hc;cases h;exact hc
 |cons v l ih=>
  intro l' k cs cs' h hc;cases h with
  |cons h1 h2=>simp only[List.zipIdx_cons,VM];exact ih (k+1) h2 (hc.set _ h1)
theorem Z1w(cells:Array Value)(off:Nat)(cs:Array Value):cells.zipIdx.foldl (λcs (c,j)=>cs.setIfInBounds (off+j) c) cs=(cells.toList.zipIdx 0).foldl (λcs (x:Value×Nat)=>cs.setIfInBounds (off+x.2) x.1) cs:=by
 rw[<-QB,Array.toList_zipIdx]
theorem Z4x(place:Nat->Option (Nat×Nat)):∀{ps ps':List (Nat×Value)}{cs cs':Array Value},PsRel ρ L ps ps'->AR ρ L cs cs'->
 (Instr.fill place cs ps=none)\/∃a b,Instr.fill place cs ps=some a/\Instr.fill place cs' ps'=some b/\AR ρ L a b:=by
 intro ps
 induction ps with
 |nil=>intro ps' cs cs' h hc;cases h;exact .inr ⟨_,_,rfl,rfl,hc⟩
 |cons p ps ih=>
  intro ps' cs cs' h hc;cases h with
  | @cons i v v' _ ps' h1 h2=>
    simp only[Instr.fill];cases place i with
    |none=>exact .inl rfl
    |some x=>
     obtain⟨off,size⟩:=x;have hv:=h1.cells;simp only[<-hv.1,<-hc.1];split
     ·exact .inl rfl
     ·refine ih h2 ?_;rw[Z1w,Z1w];exact Z8R off 0 hv.list hc
theorem ZdL{α β:Type}(f:α->Sem β)(hf:∀(L:Nat->Prop) x,Q P fs Λ G ρ L EQ (f x) (f x)):∀(l:List α)(L:Nat->Prop),Q P fs Λ G ρ L EQ (l.mapM f) (l.mapM f):=by
 intro l
 induction l with
 |nil=>intro L;exact Q.pure rfl
 |cons x l ih=>
  intro L;rw[List.mapM_cons];refine(hf L x).bind ?_;rintro a _ L1 h1 rfl;refine(ih L1).bind ?_;rintro b _ L2 h2 rfl;exact Q.pure rfl
theorem Z8S{α β:Type}(f:α->Sem β)(hf:∀(L:Nat->Prop) x,Q P fs Λ G ρ L EQ (f x) (f x))(l:Array α):Q P fs Λ G ρ L EQ (l.mapM f) (l.mapM f):=by
 rw[SY];refine(ZdL f hf _ _).bind ?_;rintro a _ L1 h1 rfl;exact Q.pure rfl
theorem ZcD(t:TypeId){ps ps':Array (Nat×Value)}(hz:Z1v P t=true)(h:PsRel ρ L ps.toList ps'.toList):Q P fs Λ G ρ L (VR ρ) (Instr.build t ps) (Instr.build t ps'):=by
 unfold Instr.build;refine(Z3Z t hz).bind ?_;intro z z' L1 h1 hz;refine(Za t).bind ?_;rintro d _ L2 h2 ⟨rfl,_⟩;have hzc:=(hz.up h2).cells;have hp:=(h.up h1).up h2;cases d with
 |struct fields=>
  refine(Z8S _ (λL f=>(Z0e f.type).bind (B:=EQ) λ_ _ _ _ h=>Q.pure (by rw[EQ,h])) fields).bind ?_;rintro pl _ L3 h3 rfl;rcases Z4x (λi=>pl[i]?) (hp.up h3) (hzc.up h3) with e|⟨a,b,e1,e2,Cy⟩
  ·rw[e];exact Q.stuck
  ·rw[e1,e2];exact Q.pure (.agg Cy.1 Cy.2)
 |array n elem=>
  refine(Z0e elem).bind ?_;rintro size _ L3 h3 rfl;rcases Z4x (λi=>some (i*size,size)) (hp.up h3) (hzc.up h3) with e|⟨a,b,e1,e2,Cy⟩
  ·rw[e];exact Q.stuck
  ·rw[e1,e2];exact Q.pure (.agg Cy.1 Cy.2)
 |_=>exact Q.stuck
theorem VRel.dflt:VRel ρ L default default:=by
 show VRel ρ L (Value.bool _) (Value.bool _);exact .bool _
theorem Z35{n:Nat}(hz:AR ρ L z z'):AR ρ L ((Array.range n).map (λi=>z[i % z.size]!)) ((Array.range n).map (λi=>z'[i % z'.size]!)):=by
 refine AR.mk (by simp) λi v v' h1 h2=> ?_
 simp only[Array.getElem?_map,XT] at h1 h2;obtain⟨x,hx,rfl⟩:=h1;obtain⟨y,hy,rfl⟩:=h2;rw[hx] at hy;cases hy;rw[<-hz.1];by_cases A3:x % z.size<z.size
 ·exact hz.get! A3
 ·have Fu:¬x % z.size<z'.size:=by rw[<-hz.1];exact A3
  rw[getElem!_neg z _ A3,getElem!_neg z' _ Fu];exact .dflt
theorem Z5h(t:TypeId)(len:Nat){ps ps':Array (Nat×Value)}(hz:∀e,P.underlying t=some (.slice e)->Z1v P e=true)(h:PsRel ρ L ps.toList ps'.toList):Q P fs Λ G ρ L (VR ρ) (Instr.buildSlice t len ps) (Instr.buildSlice t len ps'):=by
 unfold Instr.buildSlice;refine(Za t).bind ?_;rintro d _ L1 h1 ⟨rfl,hd⟩;cases d with
 |slice elem=>
  refine(Z0e elem).bind ?_;rintro size _ L2 h2 rfl;dsimp only;split
  ·exact Q.bindUnsupported (by simp)
  ·have fin:∀{L':Nat->Prop}(z z':Array Value),(∀x,L2 x->L' x)->AR ρ L' z z'->Q P fs Λ G ρ L' (VR ρ)
    (match Instr.fill (λi=>some (i*size,size)) (Array.map (λx=>z[x % z.size]!) (Array.range (len*size))) ps.toList with
      |some cells=>do let a<-newRow elem cells;Pure.pure (Value.slice (some a) len len)
      |_=>Go.stuck "buildSlice: a part of the wrong size")
    (match Instr.fill (λi=>some (i*size,size)) (Array.map (λx=>z'[x % z'.size]!) (Array.range (len*size))) ps'.toList with
      |some cells=>do let a<-newRow elem cells;Pure.pure (Value.slice (some a) len len)
      |_=>Go.stuck "buildSlice: a part of the wrong size"):=by
    intro L' z z' hL' Pi;rcases Z4x (λi=>some (i*size,size)) (((h.up h1).up h2).up hL') (Z35 (n:=len*size) Pi) with e|⟨a,b,e1,e2,Cy⟩
    ·rw[e];exact Q.stuck
    ·rw[e1,e2];refine(Z2h elem Cy).bind ?_;rintro ad _ L4 h4 ⟨rfl,ha⟩;exact Q.pure (.slice len len ha)
   split
   ·refine Q.bind (A:=AR ρ) (Q.pure AR.nil) ?_;intro z z' L3 h3 Pi;exact fin z z' h3 Pi
   ·refine(Z3Z elem (hz _ hd)).bind ?_;intro v v' L3 h3 hv;refine Q.bind (A:=AR ρ) (Q.pure hv.cells) ?_;intro z z' L4 h4 Pi;exact fin z z' (λx hx=>h4 x (h3 x hx)) Pi
 |_=>exact Q.stuck
theorem ZaU(t:TypeId){v v':Value}(hv:VRel ρ L v v'):Q P fs Λ G ρ L (VR ρ) (Instr.loadAt t v) (Instr.loadAt t v'):=by
 unfold Instr.loadAt;refine(Z1h hv).bind ?_;rintro a _ L1 h1 ⟨rfl,ha⟩;exact Z5f t a ha
theorem Z8T(t:TypeId){v v' x x':Value}(hv:VRel ρ L v v')(hx:VRel ρ L x x'):Q P fs Λ G ρ L (TT (α:=Unit) (β:=Unit)) (Instr.storeAt t v x) (Instr.storeAt t v' x'):=by
 unfold Instr.storeAt;refine(Z1h hv).bind ?_;rintro a _ L1 h1 ⟨rfl,ha⟩;exact Z7S t a ha (hx.up h1)
theorem Z5i(a:Addr)(f:Field)(ha:L a.block)(hs:∀i,P.info? f.type=some i->i.size≠0):Q P fs Λ G ρ L (AdR ρ) (fieldPlace a f) (fieldPlace (Zl ρ a) f):=by
 unfold fieldPlace sizeOf;rw[bind_assoc,bind_assoc];refine(Z0n _).bind ?_;rintro i _ L1 h1 ⟨rfl,hi⟩;rw[pure_bind,pure_bind,XA (hs _ hi),XA (hs _ hi)];exact Q.pure ⟨(Z17 a _).symm,by rw[Z0v];exact h1 _ ha⟩
theorem Z8U(s:TypeId){v v':Value}(i:Nat)(hv:VRel ρ L v v')(hs:∀fs f,P.underlying s=some (.struct fs)->fs[i]? =some f->∀i,P.info? f.type=some i->i.size≠0):
 Q P fs Λ G ρ L (VR ρ) (Instr.fieldAt s v i) (Instr.fieldAt s v' i):=by
 unfold Instr.fieldAt;refine(Za s).bind ?_;rintro d _ L1 h1 ⟨rfl,hd⟩;cases d with
 |struct fields=>
  dsimp only;cases hf:fields[i]? with
  |none=>exact Q.stuck
  |some f=>
   refine(Z1h (hv.up h1)).bind ?_;rintro a _ L2 h2 ⟨rfl,ha⟩;refine(Z5i a f ha (hs _ _ hd hf)).bind ?_;rintro a _ L3 h3 ⟨rfl,ha⟩;exact Q.pure (.ptr ha)
 |_=>exact Q.stuck
theorem ZcE(t:TypeId){v v':Value}(i:Nat)(hv:VRel ρ L v v'):Q P fs Λ G ρ L (VR ρ) (Instr.field t v i) (Instr.field t v' i):=by
 unfold Instr.field;refine(Za t).bind ?_;rintro d _ L1 h1 ⟨rfl,hd⟩;cases d with
 |struct fields=>
  dsimp only;cases hf:fields[i]? with
  |none=>exact Q.stuck
  |some f=>
   refine(ZcB (hv.up h1)).bind ?_;intro cs cs' L2 h2 Ag;exact Z1E f.type Ag f.offset
 |_=>exact Q.stuck
theorem Z8V(t:TypeId){v v' i i':Value}(hv:VRel ρ L v v')(hi:VRel ρ L i i'):Q P fs Λ G ρ L (VR ρ) (Instr.indexAt t v i) (Instr.indexAt t v' i'):=by
 unfold Instr.indexAt;refine(Z2i hi).bind ?_;rintro⟨k,n⟩ _ L1 h1 ⟨rfl,_,_⟩;dsimp only;refine(Za t).bind ?_;rintro d _ L2 h2 ⟨rfl,hd⟩;have Iq:=(hv.up h1).up h2
 have fin:∀(L3:Nat->Prop)(base:Option Addr)(len:Nat)(elem:TypeId),(∀x,L2 x->L3 x)->(∀a,base=some a->L3 a.block)->∀tiny:Bool,Q P fs Λ G ρ L3 (VR ρ)
  (match base with
    |some a=>if 0<=n/\n<len then do let s<-sizeOf elem;Pure.pure (Value.pointer (some (a.add (n.toNat*s))))
     else if tiny then Go.unsupported (.noEntry "op/indexAddr.an index out of range at an array of length 0 or 1 (ledger 616)") else boundsPanic k n len .index
    |none=>boundsPanic k n 0 .index)
  (match base.map (Zl ρ) with
    |some a=>if 0<=n/\n<len then do let s<-sizeOf elem;Pure.pure (Value.pointer (some (a.add (n.toNat*s))))
     else if tiny then Go.unsupported (.noEntry "op/indexAddr.an index out of range at an array of length 0 or 1 (ledger 616)") else boundsPanic k n len .index
    |none=>boundsPanic k n 0 .index):=by
  intro L3 base len elem h3 hb tiny;cases base with
  |none=>exact Z0C _ _ _ _
  |some a=>
   dsimp only[Option.map_some];split
   ·refine(Z0e elem).bind ?_;rintro s _ L4 h4 rfl;rw[<-Z17];exact Q.pure (.ptr (by rw[Z0v];exact h4 _ (hb a rfl)))
   ·split
    ·exact Q.unsupported (by simp)
    ·exact Z0C _ _ _ _
 cases d with
 |array len elem=>
  dsimp only;refine(Z1h Iq).bind ?_;rintro a _ L3 h3 ⟨rfl,ha⟩;rw[pure_bind,pure_bind];refine(Za t).bind ?_;rintro d _ L4 h4 ⟨rfl,hd⟩;exact fin L4 (some a) len elem (λx hx=>h4 x (h3 x hx)) (λb hb=>by cases hb;exact h4 _ ha) _
 |slice elem=>
  cases Iq with
  |nilSlice len cap=>
   dsimp only;rw[pure_bind];refine(Za t).bind ?_;rintro d _ L4 h4 ⟨rfl,hd⟩;exact fin L4 none len elem h4 (λb hb=>by cases hb) false
  |slice len cap ha=>
   dsimp only;rw[pure_bind,pure_bind];refine(Za t).bind ?_;rintro d _ L4 h4 ⟨rfl,hd⟩;exact fin L4 (some _) len elem h4 (λb hb=>by cases hb;exact h4 _ ha) _
  |_=>exact Q.bindStuck
 |_=>exact Q.bindStuck
theorem Z1F{v v':Value}(hv:VRel ρ L v v')(y:Nat)(c:BoundsCode):Q P fs Λ G ρ L EQ (Instr.sliceBound v y c) (Instr.sliceBound v' y c):=by
 unfold Instr.sliceBound;refine(Z2i hv).bind ?_;rintro⟨k,n⟩ _ L1 h1 ⟨rfl,_,_⟩;dsimp only;split
 ·exact Q.pure rfl
 ·exact Z0C _ _ _ _
inductive OvRel(ρ:Nat->Nat)(L:Nat->Prop):Option Value->Option Value->Prop
 |none:OvRel ρ L none none
 |some {v v'}:VRel ρ L v v'->OvRel ρ L (some v) (some v')
theorem OvRel.up{L':Nat->Prop}{a b:Option Value}(h:OvRel ρ L a b)(hL:∀b,L b->L' b):OvRel ρ L' a b:=by
 cases h with
 |none=>exact .none
 |some h=>exact .some (h.up hL)
theorem Z0D(isS:Bool)(len cap:Nat){lo lo' hi hi':Option Value}(h1:OvRel ρ L lo lo')(h2:OvRel ρ L hi hi'):
 Q P fs Λ G ρ L EQ (Instr.sliceBounds isS len cap lo hi none) (Instr.sliceBounds isS len cap lo' hi' none):=by
 unfold Instr.sliceBounds;dsimp only;rw[pure_bind,pure_bind];cases h2 with
 |none=>
  dsimp only;rw[pure_bind,pure_bind];cases h1 with
  |none=>exact Q.pure rfl
  |some hv=>
   refine(Z1F hv _ _).bind ?_;rintro l _ L1 g1 rfl;exact Q.pure rfl
 |some hv=>
  refine(Z1F hv _ _).bind ?_;rintro h _ L1 g1 rfl;cases h1 with
  |none=>exact Q.pure rfl
  |some hv=>
   refine(Z1F (hv.up g1) _ _).bind ?_;rintro l _ L2 g2 rfl;exact Q.pure rfl
theorem ZcF(t:TypeId){v v':Value}{lo lo' hi hi':Option Value}(hv:VRel ρ L v v')(h1:OvRel ρ L lo lo')(h2:OvRel ρ L hi hi'):
 Q P fs Λ G ρ L (VR ρ) (Instr.slice t v lo hi none) (Instr.slice t v' lo' hi' none):=by
 unfold Instr.slice;refine(Za t).bind ?_;rintro d _ L1 g1 ⟨rfl,hd⟩;have Ke:=hv.up g1;cases d with
 |string=>
  cases Ke with
  |string s=>
   dsimp only;simp only[Option.isSome_none,YR,XZ];refine(Z0D _ _ _ (h1.up g1) (h2.up g1)).bind ?_;rintro⟨l,h,m⟩ _ L2 g2 rfl;exact Q.pure (.string _)
  |_=>exact Q.stuck
 |slice elem=>
  cases Ke with
  |nilSlice len cap=>
   dsimp only;refine(Z0D _ _ _ (h1.up g1) (h2.up g1)).bind ?_;rintro⟨l,h,m⟩ _ L2 g2 rfl;refine(Z0e elem).bind ?_;rintro s _ L3 g3 rfl;refine Q.pure ?_;dsimp only[Option.map_none];split<;>exact .nilSlice _ _
  |slice len cap ha=>
   dsimp only;refine(Z0D _ _ _ (h1.up g1) (h2.up g1)).bind ?_;rintro⟨l,h,m⟩ _ L2 g2 rfl;refine(Z0e elem).bind ?_;rintro s _ L3 g3 rfl;refine Q.pure ?_;dsimp only[Option.map_some];split
   ·exact .slice _ _ (g3 _ (g2 _ ha))
   ·rw[<-Z17];exact .slice _ _ (by rw[Z0v];exact g3 _ (g2 _ ha))
  |_=>exact Q.stuck
 |pointer arr=>
  have key:∀{a:Addr}(L2:Nat->Prop),(∀x,L1 x->L2 x)->L2 a.block->Q P fs Λ G ρ L2 (VR ρ)
   (do let .array n elem<-underlying arr|Go.stuck "Slice: array type expected"
       let (l,h,m)<-Instr.sliceBounds false n n lo hi none
       let size<-sizeOf elem
       Pure.pure (.slice (some (if m=l then a else a.add (l*size))) (h - l) (m - l)))
   (do let .array n elem<-underlying arr|Go.stuck "Slice: array type expected"
       let (l,h,m)<-Instr.sliceBounds false n n lo' hi' none
       let size<-sizeOf elem
       Pure.pure (.slice (some (if m=l then Zl ρ a else(Zl ρ a).add (l*size))) (h - l) (m - l))):=by
   intro a L2 g2 ha;refine(Za arr).bind ?_;rintro d _ L3 g3 ⟨rfl,hd⟩;cases d with
   |array n elem=>
    dsimp only;refine(Z0D _ _ _ (((h1.up g1).up g2).up g3) (((h2.up g1).up g2).up g3)).bind ?_;rintro⟨l,h,m⟩ _ L4 g4 rfl;refine(Z0e elem).bind ?_;rintro s _ L5 g5 rfl;refine Q.pure ?_;dsimp only;have hb:=g5 _ (g4 _ (g3 _ ha));split
    ·exact .slice _ _ hb
    ·rw[<-Z17];exact .slice _ _ (by rw[Z0v];exact hb)
   |_=>exact Q.stuck
  have e:=(Z73 (P:=P) (fs:=fs) (G:=G) Ke).bind (B:=VR ρ) (f:=λa=>(do
   let .array n elem<-underlying arr|Go.stuck "Slice: array type expected"
   let (l,h,m)<-Instr.sliceBounds false n n lo hi none
   let size<-sizeOf elem
   Pure.pure (.slice (some (if m=l then a else a.add (l*size))) (h - l) (m - l)))) (g:=λa=>(do
   let .array n elem<-underlying arr|Go.stuck "Slice: array type expected"
   let (l,h,m)<-Instr.sliceBounds false n n lo' hi' none
   let size<-sizeOf elem
   Pure.pure (.slice (some (if m=l then a else a.add (l*size))) (h - l) (m - l)))) (by
   rintro a _ L2 g2 ⟨rfl,ha⟩;exact key L2 g2 ha)
  exact e
 |_=>exact Q.stuck
theorem Z8W(t:TypeId){v v':Value}{lo lo' hi hi':Option Value}(hv:VRel ρ L v v')(h1:OvRel ρ L lo lo')(h2:OvRel ρ L hi hi'):
 Q P fs Λ G ρ L (VR ρ) (Instr.sliceAt t v lo hi none) (Instr.sliceAt t v' lo' hi' none):=by
 unfold Instr.sliceAt;refine(Za t).bind ?_;rintro d _ L1 g1 ⟨rfl,hd⟩;cases d with
 |array n elem=>
  dsimp only;refine(Z1h (hv.up g1)).bind ?_;rintro a _ L2 g2 ⟨rfl,ha⟩;refine(Z0D _ _ _ ((h1.up g1).up g2) ((h2.up g1).up g2)).bind ?_;rintro⟨l,h,m⟩ _ L3 g3 rfl;refine(Z0e elem).bind ?_;rintro s _ L4 g4 rfl;refine Q.pure ?_;dsimp only;have hb:=g4 _ (g3 _ ha);split
  ·exact .slice _ _ hb
  ·rw[<-Z17];exact .slice _ _ (by rw[Z0v];exact hb)
 |_=>exact ZcF t (hv.up g1) (h1.up g1) (h2.up g1)
theorem Z5j{e:RuntimeError}(h:lightE e=true){f:γ->Sem α}{g:δ->Sem β}:Q P fs Λ G ρ L A ((runtimePanic e:Sem γ)>>=f) ((runtimePanic e:Sem δ)>>=g):=
 Q.bind (A:=λ_ _ _=>False) (Z02 e h) λ_ _ _ _ h=>h.elim
theorem Z6e(t:TypeId){l l' c c':Value}(hl:VRel ρ L l l')(hc:VRel ρ L c c')(hz:∀e,P.underlying t=some (.slice e)->Z1v P e=true):Q P fs Λ G ρ L (VR ρ) (Instr.makeSlice t l c) (Instr.makeSlice t l' c'):=by
 unfold Instr.makeSlice;refine(Za t).bind ?_;rintro d _ L1 g1 ⟨rfl,hd⟩;cases d with
 |slice elem=>
  dsimp only;refine(Z4v (hl.up g1)).bind ?_;rintro len _ L2 g2 rfl;refine(Z4v ((hc.up g1).up g2)).bind ?_;rintro cap _ L3 g3 rfl;refine(Z0n elem).bind ?_;rintro i _ L4 g4 ⟨rfl,hi⟩;have hz':=hz _ hd;split
  ·split
   ·exact Z5j rfl
   ·split
    ·exact Z5j rfl
    ·refine Q.choose.bind ?_;rintro n _ L5 g5 rfl;exact Z5j rfl
  ·refine(Z5g _).bind ?_;intro _ _ L5 g5 _;refine(Z0e elem).bind ?_;rintro s _ L6 g6 rfl;split
   ·rw[pure_bind];refine(Z2h elem (Z35 AR.nil)).bind ?_;rintro a _ L7 g7 ⟨rfl,ha⟩;exact Q.pure (.slice _ _ ha)
   ·refine(Z3Z elem hz').bind ?_;intro v v' L7 g7 hv;rw[pure_bind,pure_bind];refine(Z2h elem (Z35 hv.cells)).bind ?_;rintro a _ L8 g8 ⟨rfl,ha⟩;exact Q.pure (.slice _ _ ha)
 |_=>exact Q.stuck
theorem ZcG(t:TypeId){v v' i i':Value}(hv:VRel ρ L v v')(hi:VRel ρ L i i'):Q P fs Λ G ρ L (VR ρ) (Instr.index t v i) (Instr.index t v' i'):=by
 unfold Instr.index;refine(Z2i hi).bind ?_;rintro⟨k,n⟩ _ L1 g1 ⟨rfl,_,_⟩;dsimp only;refine(Za t).bind ?_;rintro d _ L2 g2 ⟨rfl,hd⟩;have Iq:=(hv.up g1).up g2;cases d with
 |array len elem=>
  cases Iq with
  |agg h1 h2=>
   dsimp only;split
   ·refine(Z0e elem).bind ?_;rintro s _ L3 g3 rfl;exact Z1E elem (AR.up ⟨h1,h2⟩ g3) _
   ·exact Z0C _ _ _ _
  |_=>exact Q.stuck
 |string=>
  cases Iq with
  |string s=>
   dsimp only;split
   ·exact Q.pure (.int _ _)
   ·exact Z0C _ _ _ _
  |_=>exact Q.stuck
 |_=>exact Q.stuck
theorem Z8X{v v':Value}(i:Nat)(hv:VRel ρ L v v'):Q P fs Λ G ρ L (VR ρ) (Instr.extract v i) (Instr.extract v' i):=by
 unfold Instr.extract;cases hv with
 | @tuple cs cs' h1 h2=>
   dsimp only;have h:AR ρ L cs cs':=⟨h1,h2⟩;cases hc:cs[i]? with
   |none=>exact Q.stuck
   |some v=>
    obtain⟨v',hv',hr⟩:=h.get hc;rw[hv'];exact Q.pure hr
 |_=>exact Q.stuck
end
theorem Z0P(P:Program)(fs:Array Func):∀d,byteOfCell (Z6 P fs) d=byteOfCell P d
 |0=>rfl
 |d+1=>by
  funext t off;simp only[byteOfCell,Z0P P fs d,Z0J,Z0B,Z0S];rfl
theorem Z1x(P:Program)(fs:Array Func):∀d,cellOfByte (Z6 P fs) d=cellOfByte P d
 |0=>rfl
 |d+1=>by
  funext t off;simp only[cellOfByte,Z1x P fs d,Z0J,Z0B,Z0S];rfl
theorem Z2E(P:Program)(fs:Array Func):cellAtBytes (Z6 P fs)=cellAtBytes P:=by
 funext d e c o b;simp only[cellAtBytes,Z0P,Z1x,Z0B,Z0S];rfl
section
variable {fs:Array Func}
variable {α β γ δ:Type}{A:(Nat->Prop)->α->β->Prop}{B:(Nat->Prop)->γ->δ->Prop}
theorem Q.ite{c c':Prop}[i:Decidable c][i':Decidable c'](h:c↔c'){X X':Sem α}{Y Y':Sem β}(ht:c->Q P fs Λ P.globals.size ρ L A X Y)(hf:¬c->Q P fs Λ P.globals.size ρ L A X' Y'):Q P fs Λ P.globals.size ρ L A (if c then X else X') (if c' then Y else Y'):=by
 by_cases hc:c
 ·rw[YZ hc,YZ (h.1 hc)];exact ht hc
 ·rw[XA hc,XA (λx=>hc (h.2 x))];exact hf hc
theorem Z74(r:Nat)(hr:L r):Q P fs Λ P.globals.size ρ L (λ_ a b=>a=none/\b=none) (viewAt r) (viewAt (ρ r)):=by
 unfold viewAt;intro hK N;refine .shape hr λs=> ?_
 cases s with
 |some x=>exact .pure ⟨rfl,rfl⟩
 |none=>
  refine .getObj hr λL' o o' hL hK' ho Gj=> ?_
  cases ho<;>exact .pure ⟨rfl,rfl⟩
inductive NumR(ρ:Nat->Nat)(L:Nat->Prop):Option (Addr×Bool)->Option (Addr×Bool)->Prop
 |none:NumR ρ L none none
 |some {a l}:L a.block->NumR ρ L (some (a,l)) (some (Zl ρ a,l))
theorem Z40(r:Nat)(hr:L r):Q P fs Λ P.globals.size ρ L (NumR ρ) (numberAt r) (numberAt (ρ r)):=by
 unfold numberAt;intro hK N;refine .shape hr λs=> ?_
 cases s with
 |some x=>exact .pure .none
 |none=>
  refine .getObj hr λL' o o' hL hK' ho Gj=> ?_
  cases ho with
  |number h=>exact .pure (.some h)
  |_=>exact .pure .none
theorem Z06(a:Addr)(ha:L a.block):Q P fs Λ P.globals.size ρ L (λL x y=>y=(Zl ρ x.1,x.2)/\L x.1.block) (behindNumber a) (behindNumber (Zl ρ a)):=by
 unfold behindNumber;refine(Z40 a.block ha).bind ?_;intro x y L1 g1 h;cases h with
 |none=>exact Q.pure ⟨rfl,g1 _ ha⟩
 |some h=>exact Q.pure ⟨rfl,h⟩
theorem ZaV(a:Addr)(ha:L a.block):Q P fs Λ P.globals.size ρ L (TT (α:=Unit) (β:=Unit)) (noView a) (noView (Zl ρ a)):=by
 unfold noView;refine(Z74 a.block ha).bind ?_;rintro x y L1 g1 ⟨rfl,rfl⟩;exact Q.pure trivial
theorem Z2k(a:Addr)(ha:L a.block):Q P fs Λ P.globals.size ρ L EQ (byteOf a) (byteOf (Zl ρ a)):=by
 unfold byteOf;have e:(Zl ρ a).spot=a.spot:=rfl;rw[e];cases a.spot with
 |some s=>exact Q.pure rfl
 |none=>
  dsimp only;refine Q.program ?_;refine(ZaV a ha).bind ?_;intro _ _ L1 g1 _;intro hK N;refine .shape (g1 _ ha) λs=> ?_
  cases s with
  |none=>exact .bad trivial
  |some x=>
   dsimp only[Z0B,Z0S,Z3k];rw[Z0P];dsimp only[Sem.bind];refine(?_:Q P fs Λ P.globals.size ρ L1 EQ _ _) hK N;dsimp only[Zl];refine Q.ite UO (λh=>Q.pure rfl) (λh=> ?_)
   ·cases byteOfCell P P.depth x.fst (a.off % P.cellsOf x.fst) with
    |some b=>exact Q.pure rfl
    |none=>exact Q.stuck
theorem Good.block{G:Nat}(hK:Good ρ G L){a b:Addr}(ha:L a.block)(hb:L b.block):(ρ a.block=ρ b.block)↔(a.block=b.block):=⟨hK.1 _ _ ha hb,λh=>by rw[h]⟩
theorem Good.ge{G:Nat}(hK:Good ρ G L){b:Nat}(hb:L b):(G<=ρ b)↔(G<=b):=by
 have:=hK.2 b hb;constructor<;>intro h<;>omega
theorem Good.addr{G:Nat}(hK:Good ρ G L){a b:Addr}(ha:L a.block)(hb:L b.block):(Zl ρ a=Zl ρ b)↔(a=b):=by
 constructor
 ·intro h;obtain⟨b1,o1,s1⟩:=a;obtain⟨b2,o2,s2⟩:=b;simp only[Zl,Addr.mk.injEq] at h;obtain⟨h1,rfl,rfl⟩:=h;have:=hK.1 b1 b2 ha hb h1;subst this;rfl
 ·rintro rfl;rfl
theorem Z3n(a b:Addr)(ha:L a.block)(hb:L b.block):Q P fs Λ P.globals.size ρ L EQ (Op.twoPlaces a b) (Op.twoPlaces (Zl ρ a) (Zl ρ b)):=by
 unfold Op.twoPlaces;refine Q.good λhK=>Q.program ?_
 refine Q.ite ?_ (λ_=>Q.bindUnsupported (u:= .addressObserved) (by simp)) (λ_=> ?_)
 ·have h1:=hK.block ha hb;have h2:=hK.ge ha;simp only[Zl,Z4u,UB,bne_iff_ne,ne_eq,XG,ge_iff_le];rw[h1,h2]
 ·refine(Z2k a ha).bind ?_;rintro x _ L1 g1 rfl;refine(Z2k b (g1 _ hb)).bind ?_;rintro y _ L2 g2 rfl;exact Q.pure rfl
theorem Z8Y(k:IntKind)(a b:Addr)(ha:L a.block)(hb:L b.block):Q P fs Λ P.globals.size ρ L (VR ρ) (Op.addrSub k a b) (Op.addrSub k (Zl ρ a) (Zl ρ b)):=by
 unfold Op.addrSub;refine(Z3n a b ha hb).bind ?_;rintro⟨x,y⟩ _ L1 g1 rfl;exact Q.pure (.int _ _)
theorem Z8Z(op:BinOp)(a b:Addr)(ha:L a.block)(hb:L b.block):Q P fs Λ P.globals.size ρ L (VR ρ) (Op.addrCmp op a b) (Op.addrCmp op (Zl ρ a) (Zl ρ b)):=by
 unfold Op.addrCmp;refine(Z3n a b ha hb).bind ?_;rintro⟨x,y⟩ _ L1 g1 rfl;cases op<;>first|exact Q.pure (.bool _)|exact Q.unsupported (by simp)
theorem Z5k(k:IntKind)(a:Addr)(n:Int)(ha:L a.block):Q P fs Λ P.globals.size ρ L (VR ρ) (Op.addrMod k a n) (Op.addrMod k (Zl ρ a) n):=by
 unfold Op.addrMod;intro hK N;refine .shape ha λs=> ?_
 cases s with
 |none=>exact .bad trivial
 |some x=>
  dsimp only[Sem.bind];refine(?_:Q P fs Λ P.globals.size ρ L (VR ρ) _ _) hK N;refine(Z0n _).bind ?_;rintro i _ L1 g1 ⟨rfl,hi⟩;refine Q.ite UO (λ_=>Q.bindUnsupported (u:= .addressObserved) (by simp)) (λ_=> ?_);refine(Z2k a (g1 _ ha)).bind ?_;rintro x _ L2 g2 rfl;exact Q.pure (.int _ _)
def PtrR(ρ:Nat->Nat)(L:Nat->Prop)(v v':Value):Prop:=∃a,v= .pointer (some a)/\v'= .pointer (some (Zl ρ a))/\L a.block
theorem PtrR.vrel{v v':Value}(h:PtrR ρ L v v'):VRel ρ L v v':=by obtain⟨a,rfl,rfl,h⟩:=h;exact .ptr h
theorem Z28(t:TypeId){x x' y y':Value}(hx:VRel ρ L x x')(hy:VRel ρ L y y'):Q P fs Λ P.globals.size ρ L (PtrR ρ) (Builtin.unsafeAdd_ #[] t #[x,y]) (Builtin.unsafeAdd_ #[] t #[x',y']):=by
 unfold Builtin.unsafeAdd_;cases hx with
 | @ptr a ha=>
   dsimp only;refine(Z4v hy).bind ?_;rintro n _ L1 g1 rfl;refine Q.ite UO (λ_=> ?_) (λ_=>Q.ite UO (λ_=>Q.bindUnsupported (u:= .unsafePointer _) (by simp)) λ_=> ?_)
   ·refine(Z74 a.block (g1 _ ha)).bind ?_;rintro _ _ L2 g2 ⟨rfl,rfl⟩;exact Q.pure ⟨_,rfl,rfl,g2 _ (g1 _ ha)⟩
   ·intro hK N;refine .shape (g1 _ ha) λs=> ?_
    cases s with
    |none=>exact .bad trivial
    |some s=>
     refine .program ?_;dsimp only[Sem.bind,Z3k,Z0B];rw[Z2E];refine(?_:Q P fs Λ P.globals.size ρ L1 (PtrR ρ) _ _) hK N;show Q P fs Λ P.globals.size ρ L1 (PtrR ρ) (match cellAtBytes P P.depth s.1 (s.2 / P.cellsOf s.1) a.off n with|some off=>_|none=>_) (match cellAtBytes P P.depth s.1 (s.2 / P.cellsOf s.1) a.off n with|some off=>_|none=>_);cases cellAtBytes P P.depth s.1 (s.2 / P.cellsOf s.1) a.off n with
     |some off=>exact Q.pure ⟨{a with off},rfl,rfl,g1 _ ha⟩
     |none=>exact Q.unsupported (by simp)
 |nilPtr=>
  dsimp only;refine(Z4v hy).bind ?_;rintro n _ L1 g1 rfl;refine Q.ite UO (λ_=>Q.unsupported (u:= .unsafePointer _) (by simp)) (λ_=>Q.ite UO (λ_=>Q.bindUnsupported (u:= .unsafePointer _) (by simp)) λ_=>Q.unsupported (u:= .unsafePointer _) (by simp))
 |_=>exact Q.stuck
theorem Z7T(a:Addr)(l:Bool)(ha:L a.block):Q P fs Λ P.globals.size ρ L (VR ρ) (asNumber a l) (asNumber (Zl ρ a) l):=by
 unfold asNumber;exact λ_ _=> .new (.number ha) (λ_ h=>by cases h) λr _=> .pure (.ptr (a:=⟨r,0,none⟩) (.inr rfl))
theorem Z0E(t:TypeId){x x' y y':Value}(hx:VRel ρ L x x')(hy:VRel ρ L y y'):Q P fs Λ P.globals.size ρ L (VR ρ) (movedNumber t x y) (movedNumber t x' y'):=by
 unfold movedNumber;refine(Za t).bind ?_;rintro d _ L1 g1 ⟨rfl,_⟩;refine Q.ite UO (λ_=>Q.bindUnsupported (u:= .unsafePointer _) (by simp)) (λ_=> ?_);have hx:=hx.up g1;have hy:=hy.up g1;have gen:=Z28 (P:=P) (fs:=fs) (Λ:=Λ) t hx hy;cases hx with
 | @ptr n hn=>
   refine(Z06 n hn).bind ?_;rintro⟨a,l⟩ _ L2 g2 ⟨rfl,ha⟩;refine(Z28 t (VRel.ptr ha) (hy.up g2)).bind ?_;rintro _ _ L3 g3 ⟨b,rfl,rfl,hb⟩;exact Z7T _ l hb
 |nilPtr=>exact gen.imp λL a b h=>h.vrel
 |_=>exact Q.stuck
theorem Z3S(t:TypeId){x x' y y':Value}(hx:VRel ρ L x x')(hy:VRel ρ L y y'):Q P fs Λ P.globals.size ρ L (VR ρ) (movedPointer t x y) (movedPointer t x' y'):=by
 unfold movedPointer;have gen:∀{L':Nat->Prop},(∀b,L b->L' b)->Q P fs Λ P.globals.size ρ L' (VR ρ) (Builtin.unsafeAdd_ #[] t #[x,y]) (Builtin.unsafeAdd_ #[] t #[x',y']):=λg=>(Z28 (P:=P) (fs:=fs) (Λ:=Λ) t (hx.up g) (hy.up g)).imp λL a b h=>h.vrel
 cases hx with
 | @ptr n hn=>
   refine(Z40 n.block hn).bind ?_;intro o o' L2 g2 h;cases h with
   |none=>exact gen g2
   |some _=>exact Q.bindUnsupported (u:= .addressObserved) (by simp)
 |nilPtr=>exact gen λ_ h=>h
 |_=>exact Q.stuck
end
end Go.Nk
