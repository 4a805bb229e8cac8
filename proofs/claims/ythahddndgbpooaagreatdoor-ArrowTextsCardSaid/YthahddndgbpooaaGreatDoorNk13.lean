import Derived.Test.YthahddndgbpooaaGreatDoorNk02
set_option linter.all false
set_option maxHeartbeats 4000000
open Go Go.Conc
open Go renaming World->I,Value->Z,Addr->NP,Program->NO,Frame->NN,TypeId->NT,FuncId->NS
open Bool renaming true->J,false->ND
open Option renaming some->U,none->NB
variable {es':Array Event}{t:Array Z}{wr:Bool}{b:Code}{fr fr':NN}{f:NS}{bot' cs l':List NN}{B':Nat}{ro:Option Nat}{p:NO}{u:NT}{w' w1:I}
namespace Go.Ns
section
open Go.Nk (Z6)
def Dead:Halt->Prop
 | .stuck _=>True
 | .unsupported (.initOrder _)=>False
 | .unsupported _=>True
 |_=>False
def okM:Mark->Prop
 | .noRoom| .extern _=>True
 |_=>False
def EvW(B:Nat)(e:Event):Prop:=(MemAct.ofEvent e).low B/\e.loc≠.mark .disable/\e.loc≠.mark .enable
def EvW.mono{B:Nat}{e:Event}(h:EvW B e)(a:B<=B'):EvW B' e:=⟨MemAct.low_mono a h.1,h.2⟩
abbrev Knob:Obj:= .coro NB
def Rd(W:Obj->Prop)(o:Obj):Prop:=W o\/∃c e,o= .pending c e
inductive SE(PA PB:NO)(W:Obj->Prop){α:Type}(A:α->Prop):Sem α->Sem α->Prop
 |pure {a}:A a->SE PA PB W A (.pure a) (.pure a)
 |load {m a k k'}:(∀v,SE PA PB W A (k v) (k' v))->SE PA PB W A (.load m a k) (.load m a k')
 |store {m a v k k'}:SE PA PB W A k k'->SE PA PB W A (.store m a v k) (.store m a v k')
 |new {o k k'}:W o->(∀r,SE PA PB W A (k r) (k' r))->SE PA PB W A (.new o k) (.new o k')
 |shape {r k k'}:(∀s,SE PA PB W A (k s) (k' s))->SE PA PB W A (.shape r k) (.shape r k')
 |freeze {a n k k'}:SE PA PB W A k k'->SE PA PB W A (.freeze a n k) (.freeze a n k')
 |frozen {a k k'}:(∀s,SE PA PB W A (k s) (k' s))->SE PA PB W A (.frozen a k) (.frozen a k')
 |getObj {r k k'}:(∀o,W o->SE PA PB W A (k o) (k' o))->(∀c e,SE PA PB W A (k (.pending c e)) (k' (.pending c e)))->(∀o,¬Rd W o->SE PA PB W A (k Knob) (k' o))->SE PA PB W A (.getObj r k) (.getObj r k')
 |setObj {r o k k'}:W o->SE PA PB W A k k'->SE PA PB W A (.setObj r o k) (.setObj r o k')
 |choose {q k k'}:(∀n,SE PA PB W A (k n) (k' n))->SE PA PB W A (.choose q k) (.choose q k')
 |sys {c k k'}:(∀r,SE PA PB W A (k r) (k' r))->SE PA PB W A (.sys c k) (.sys c k')
 |program {k k'}:SE PA PB W A (k PA) (k' PB)->SE PA PB W A (.program k) (.program k')
 |mark {m k k'}:okM m->SE PA PB W A k k'->SE PA PB W A (.mark m k) (.mark m k')
 |panic {v}:SE PA PB W A (.halt (.panic v)) (.halt (.panic v))
 |dead {h Y}:Dead h->SE PA PB W A (.halt h) Y
 |markDead {m h Y}:Dead h->SE PA PB W A (.mark m (.halt h)) Y
structure WOk(W:Obj->Prop):Prop where
 cells:∀c e f,W (.cells c e f)
 view:∀a t,W (.view a t)
 coro:∀c,¬W (.coro c)
 pending:∀c e,¬W (.pending c e)
def Px{W:Obj->Prop}(a:WOk W)(c e f):Rd W (.cells c e f):= .inl (a.cells _ _ _)
open Classical in
noncomputable def V3(W:Obj->Prop)(o:Obj):Obj:=if Rd W o then o else Knob
noncomputable def clean(W:Obj->Prop)(w:I):I:={w with heap:=w.heap.map (V3 W)}
structure Jn(W:Obj->Prop)(w w':I):Prop where
 old:∀(b:Nat)(o:Obj),w.heap[b]? =U o->w'.heap[b]? =U o\/∃o',w'.heap[b]? =U o'/\W o'
 pend:∀(b:Nat) c e,w'.heap[b]? =U (.pending c e)->w.heap[b]? =U (.pending c e)
def Jn.refl(W:Obj->Prop)(w:I):Jn W w w:=⟨λ_ _ h=> .inl h,λ_ _ _ h=>h⟩
def Jn.trans{W:Obj->Prop}{a b c:I}(h:Jn W a b)(k:Jn W b c):Jn W a c:=⟨λx o i=>by
 rcases h.old x o i with d|⟨g,d,j⟩
 .exact k.old x o d
 .rcases k.old x g d with h3|h3
  .exact .inr ⟨g,h3,j⟩
  .exact .inr h3,λx c e m=>h.pend x c e (k.pend x c e m)⟩
section
variable {W:Obj->Prop}
def Vh{o:Obj}(h:Rd W o):V3 W o=o:=by classical exact YZ h
def It{o:Obj}(h:W o):V3 W o=o:=Vh (.inl h)
def SX(w:I)(b:Nat):(clean W w).heap[b]? =(w.heap[b]?).map (V3 W):=by simp[clean]
def Oa(w:I):(clean W w).heap.size=w.heap.size:=by simp[clean]
def Uj{o:Obj}(h:¬Rd W o):V3 W o=Knob:=by classical exact XB h
def DJ(a:WOk W)(c e f):V3 W (.cells c e f)= .cells c e f:=It (a.cells _ _ _)
def HX(d:WOk W)(w:I)(a:NP):(clean W w).cell? a=w.cell? a:=by
 unfold World.cell?;rw[SX];cases w.heap[a.block]? with
 |none=>rfl
 |some o=>
  by_cases c:Rd W o
  .rw[XN,Vh c]
  .rw[XN,Uj c];cases o<;>first|rfl|exact(c (Px d _ _ _)).elim
def nt(c:WOk W)(w:I)(r:Nat):(clean W w).shape? r=w.shape? r:=by
 unfold World.shape?;rw[SX];cases w.heap[r]? with
 |none=>rfl
 |some o=>
  by_cases a:Rd W o
  .rw[XN,Vh a]
  .rw[XN,Uj a];cases o<;>first|rfl|exact(a (Px c _ _ _)).elim
def AX(d:WOk W)(w:I)(a:NP):(clean W w).frozen? a=w.frozen? a:=by
 unfold World.frozen?;rw[SX];cases w.heap[a.block]? with
 |none=>rfl
 |some o=>
  by_cases c:Rd W o
  .rw[XN,Vh c]
  .rw[XN,Uj c];cases o<;>first|rfl|exact(c (Px d _ _ _)).elim
def H1(w:I)(h:Array Obj):clean W {w with heap:=h}={clean W w with heap:=h.map (V3 W)}:=rfl
def ca{o:Obj}(a:W o)(w:I)(b:Nat):clean W {w with heap:=w.heap.setIfInBounds b o}={clean W w with heap:=(clean W w).heap.setIfInBounds b o}:=by
 rw[H1,Array.map_setIfInBounds,It a];rfl
def pF{o:Obj}(a:W o)(w:I):clean W {w with heap:=w.heap.push o}={clean W w with heap:=(clean W w).heap.push o}:=by
 rw[H1,Array.map_push,It a];rfl
def CQ(w:I)(b:Nat)(f:Obj->Obj)(a:∀o,V3 W (f o)=f (V3 W o)):clean W {w with heap:=w.heap.modify b f}={clean W w with heap:=(clean W w).heap.modify b f}:=by
 rw[H1];have:(w.heap.modify b f).map (V3 W)=(w.heap.map (V3 W)).modify b f:=by
  apply Array.ext_getElem?;intro i;rw[Array.getElem?_map,Array.getElem?_modify,Array.getElem?_modify,Array.getElem?_map];split
  .cases w.heap[i]? with
   |none=>rfl
   |some o=>simp only[XN,a]
  .rfl
 rw[this];rfl
def jW(d:WOk W)(w:I)(a:NP)(v:Z):clean W (w.setCell a v)=(clean W w).setCell a v:=by
 unfold World.setCell;refine CQ w _ _ λo=> ?_
 by_cases c:Rd W o
 .rw[Vh c];cases o<;>first|exact DJ d _ _ _|exact Vh c
 .rw[Uj c];cases o<;>first|exact(c (Px d _ _ _)).elim|exact Uj c
def oA(d:WOk W)(w:I)(a:NP)(n:Nat):clean W (w.freeze a n)=(clean W w).freeze a n:=by
 unfold World.freeze;split
 .rfl
 .refine CQ w _ _ λo=> ?_
  by_cases c:Rd W o
  .rw[Vh c];cases o<;>first|exact DJ d _ _ _|exact Vh c
  .rw[Uj c];cases o<;>first|exact(c (Px d _ _ _)).elim|exact Uj c
def nK{γ:Type}(h:Array Obj):∀(q:Ask γ)(w:I),World.ask {w with heap:=h} q=((w.ask q).1,{(w.ask q).2 with heap:=h}):=by
 intro q
 induction q with
 |done a=>intro w;rfl
 |ask _ _ k c=>
  intro w;unfold World.ask;dsimp only;split
  .exact c _ _
  .exact c _ {w with drawn:=w.drawn+1}
def ee{γ:Type}:∀(q:Ask γ)(w:I),(w.ask q).2.heap=w.heap:=by
 intro q
 induction q with|done a=>intro w;rfl|ask _ _ k c=>intro w;unfold World.ask;dsimp only;split<;>exact(c _ _).trans rfl
def ot(w:I)(c:Sys):(w.sys c).2.heap=w.heap:=by
 unfold World.sys;split
 .rfl
 .rename_i r os w' _ heq;have:=ee (Kernel.perform c w.os) w;rw[heq]at this;exact this
def jc(w:I)(c:Sys):(clean W w).sys c=((w.sys c).1,clean W (w.sys c).2):=by
 unfold World.sys;have h:=nK ((w.heap.map (V3 W))) (Kernel.perform c w.os) w;have e:(clean W w).ask (Kernel.perform c (clean W w).os)=((w.ask (Kernel.perform c w.os)).1,{(w.ask (Kernel.perform c w.os)).2 with heap:=w.heap.map (V3 W)}):=h;rw[e];have a:=ee (Kernel.perform c w.os) w;rcases hx:w.ask (Kernel.perform c w.os)with⟨⟨r,_⟩,w1⟩;rw[hx]at a;have d:w1.heap=w.heap:=a;cases r<;>simp only[clean,d]
def Jn.set(i:WOk W){w:I}{o:Obj}(d:W o)(b:Nat):Jn W w {w with heap:=w.heap.setIfInBounds b o}:=by
 constructor
 .intro x y a;show(w.heap.setIfInBounds b o)[x]? =U y\/∃h,(w.heap.setIfInBounds b o)[x]? =U h/\W h;by_cases g:b=x
  .subst g;exact .inr ⟨o,by rw[Array.getElem?_setIfInBounds,YZ rfl,YZ (YF.1 a).1],d⟩
  .exact .inl (by rw[Array.getElem?_setIfInBounds,XB g];exact a)
 .intro x c e a;have a:(w.heap.setIfInBounds b o)[x]? =_:=a;rw[Array.getElem?_setIfInBounds]at a;split at a
  .split at a
   .cases a;exact absurd d (i.pending _ _)
   .cases a
  .exact a
def Jn.push(d:WOk W){w:I}{o:Obj}(g:W o):Jn W w {w with heap:=w.heap.push o}:=by
 constructor
 .exact λx y a=> .inl (by
   show(w.heap.push o)[x]? =U y;have:=(YF.1 a).1;rw[Array.getElem?_push,XB OA];exact a)
 .intro x c e a;have a:(w.heap.push o)[x]? =_:=a;rw[Array.getElem?_push]at a;split at a
  .cases a;exact absurd g (d.pending _ _)
  .exact a
def Jn.modify(i:WOk W){w:I}(b:Nat)(f:Obj->Obj)(d:∀o,f o=o\/W (f o)):Jn W w {w with heap:=w.heap.modify b f}:=by
 constructor
 .intro x y a;show(w.heap.modify b f)[x]? =U y\/∃g,(w.heap.modify b f)[x]? =U g/\W g;rw[Array.getElem?_modify,a];split
  .rcases d y with h|h
   .exact .inl (by simp[h])
   .exact .inr ⟨_,rfl,h⟩
  .exact .inl rfl
 .intro x c e a;have a:(w.heap.modify b f)[x]? =_:=a;rw[Array.getElem?_modify]at a;split at a
  .cases hw:w.heap[x]? with
   |none=>rw[hw]at a;cases a
   |some o=>
    rw[hw]at a;simp only[XN,XM]at a;rcases d o with h|h
    .rw[<-a,h]
    .rw[a]at h;exact absurd h (i.pending _ _)
  .exact a
def Jn.setCell(c:WOk W)(w:I)(a:NP)(v:Z):Jn W w (w.setCell a v):=Jn.modify c _ _ λo=>by cases o<;>first|exact .inl rfl|exact .inr (c.cells _ _ _)
def Jn.freeze(c:WOk W)(w:I)(a:NP)(n:Nat):Jn W w (w.freeze a n):=by
 unfold World.freeze;split
 .exact Jn.refl _ _
 .exact Jn.modify c _ _ λo=>by cases o<;>first|exact .inl rfl|exact .inr (c.cells _ _ _)
end
section
variable {PA PB:NO}{W:Obj->Prop}{α β:Type}{A:α->Prop}{B:β->Prop}
def SE.bind{X Y:Sem α}{f g:α->Sem β}(h:SE PA PB W A X Y)(i:∀a,A a->SE PA PB W B (f a) (g a)):SE PA PB W B (X>>=f) (Y>>=g):=by
 show SE PA PB W B (X.bind f) (Y.bind g)
 induction h with|pure h=>exact i _ h|load _ c=>exact .load c|store _ c=>exact .store c|new h _ c=>exact .new h c|shape _ c=>exact .shape c|freeze _ c=>exact .freeze c|frozen _ c=>exact .frozen c|getObj _ _ _ c d e=>exact .getObj c d e|setObj h _ c=>exact .setObj h c|choose _ c=>exact .choose c|sys _ c=>exact .sys c|program _ c=>exact .program c|mark h _ c=>exact .mark h c|panic=>exact .panic|dead h=>exact .dead h|markDead h=>exact .markDead h
def Out(W:Obj->Prop)(A:α->Prop)(w:I)(d:Array Event)(x:Result α)(y:Result α×Array Event):Prop:=
 (∃h w',x= .halt h w'/\Dead h)\/∃w' new,Jn W w w'/\w.heap.size<=w'.heap.size/\(∀e∈new,EvW w'.heap.size e)/\
   ((∃a,x= .ok a (clean W w')/\y=(.ok a w',d++new)/\A a)\/(∃v,x= .halt (.panic v) (clean W w')/\y=(.halt (.panic v) w',d++new))\/∃g c e,w'.heap[g]? =U (.pending c e)/\x= .halt (.unsupported (.initOrder g)) (clean W w'))
def Out.step{w:I}{es:Array Event}{new:Array Event}{x:Result α}{y:Result α×Array Event}(g:Jn W w w1)(m:w.heap.size<=w1.heap.size)(n:∀e∈new,EvW w1.heap.size e)(he:es'=es++new)(h:Out W A w1 es' x y):Out W A w es x y:=by
 subst he;rcases h with h|⟨w',a,i,c,j,d⟩
 .exact .inl h
 .refine .inr ⟨w',new++a,g.trans i,XC m c,λe he=> ?_,?_⟩
  .rcases UX.1 he with he|he
   .exact(n e he).mono c
   .exact j e he
  .rw[Array.append_assoc]at d;exact d
def Out.still{w:I}{a:Array Event}{x:Result α}{y:Result α×Array Event}(d:Jn W w w1)(g:w.heap.size<=w1.heap.size)(h:Out W A w1 a x y):Out W A w a x y:=Out.step d g (new:= #[]) (λe c=>by simp at c) OD h
def Out.one{w:I}{a:Array Event}{e:Event}{x:Result α}{y:Result α×Array Event}(d:Jn W w w1)(g:w.heap.size<=w1.heap.size)(i:EvW w1.heap.size e)(h:Out W A w1 (a.push e) x y):Out W A w a x y:=Out.step d g (new:= #[e]) (λx c=>by simp at c;subst c;exact i) OD h
def cS{w:I}{a:NP}{v:Z}(h:w.cell? a=U v):a.block<w.heap.size:=by
 unfold World.cell? at h;split at h
 .rename_i c e f hb;exact(YF.1 hb).1
 .cases h
def EX{B:Nat}{a:NP}{s:Bool}(h:a.block<B):EvW B ⟨.cell a,wr,s⟩:=⟨h,OD,OD⟩
def HA{B:Nat}{r:Nat}{s:Bool}(h:r<B):EvW B ⟨.obj r,wr,s⟩:=⟨by cases wr<;>cases s<;>exact h,OD,OD⟩
def qV(w:I)(a:NP)(n:Nat):(w.freeze a n).heap.size=w.heap.size:=by
 unfold World.freeze;split<;>simp
structure Far(PA PB:NO):Prop where
 load:∀(w:I)(a:NP)(m:Bool),w.farLoad PB a m=w.farLoad PA a m
 store:∀(w:I)(a:NP)(v:Z)(m:Bool),w.farStore PB a v m=w.farStore PA a v m
def CF{w:I}{a:NP}{k:NP}{m:Bool}{r:Array Z×NT×(Nat×Nat)×Nat×Z×List (Nat×Nat×List UInt8)}(h:w.seen p a u k m= .ok r):a.block<w.heap.size:=by
 cases hh:w.heap[a.block]? with
 |some o=>exact(YF.1 hh).1
 |none=>
  exfalso;unfold World.seen at h;simp only[bind,Except.bind,pure,Except.pure,throw,throwThe,MonadExceptOf.throw,hh]at h
  (repeat' split at h)<;>first|cases h;done|skip
def BO(d:WOk W)(p:NO)(w:I)(a:NP)(u:NT)(k:NP)(m:Bool):(clean W w).seen p a u k m=w.seen p a u k m:=by
 unfold World.seen;rw[SX];cases w.heap[a.block]? with
 |none=>rfl
 |some o=>
  by_cases c:Rd W o
  .rw[XN,Vh c]
  .rw[XN,Uj c];cases o<;>first|rfl|exact(c (Px d _ _ _)).elim
def pK(a:WOk W)(p:NO)(w:I)(b:NP)(u:NT)(k:NP)(v:Z)(m:Bool):(clean W w).viewStore p b u k v m=(match w.viewStore p b u k v m with| .ok (w',l)=> .ok (clean W w',l)| .error e=> .error e):=by
 unfold World.viewStore;rw[BO a];simp only[bind,Except.bind,pure,Except.pure];split
 .rfl
 .split
  .rfl
  .split
   .split
    .rfl
    .split
     .rfl
     .simp only[ca (a.cells _ _ _)]
   .rfl
def ae(g:WOk W)(w:I)(a:NP)(str:String):(∃b u,w.heap[a.block]? =U (.view b u)/\(clean W w).heap[a.block]? =U (.view b u))\/((∀b u,(clean W w).heap[a.block]? ≠U (.view b u))/\(Dead ((clean W w).noCell a str)\/
 ∃c e,w.heap[a.block]? =U (.pending c e)/\(clean W w).noCell a str= .unsupported (.initOrder a.block))):=by
 unfold World.noCell;rw[SX];cases w.heap[a.block]? with
 |none=>exact .inr ⟨λ_ _ h=>(by cases h),.inl trivial⟩
 |some o=>
  by_cases d:Rd W o
  .rw[XN,Vh d];cases o<;>first|exact .inl ⟨_,_,rfl,rfl⟩|exact .inr ⟨λ_ _ h=>(by cases h),.inl trivial⟩|exact .inr ⟨λ_ _ h=>(by cases h),.inr ⟨_,_,rfl,rfl⟩⟩
  .rw[XN,Uj d];exact .inr ⟨λ_ _ h=>(by cases h),.inl trivial⟩
def jd(j:WOk W)(w:I)(a:NP)(m:Bool):(∃e,(clean W w).farLoad PA a m= .error e/\Dead e)\/(∃g c e,w.heap[g]? =U (.pending c e)/\(clean W w).farLoad PA a m= .error (.unsupported (.initOrder g)))\/∃v l,(clean W w).farLoad PA a m= .ok (v,l)/\w.farLoad PA a m= .ok (v,l)/\∀x∈l,x.block<w.heap.size:=by
 rcases ae j w a "load: no such cell" with⟨d,u,i,h⟩|⟨i,h⟩
 .unfold World.farLoad;rw[i,h];dsimp only;have e:(clean W w).viewLoad PA d u a m=w.viewLoad PA d u a m:=by unfold World.viewLoad;rw[BO j]
  rw[e];cases hv:w.viewLoad PA d u a m with
  |error e=>exact .inl ⟨_,rfl,trivial⟩
  |ok r=>
   obtain⟨v,l⟩:=r;refine .inr (.inr ⟨v,l,rfl,rfl,?_⟩);unfold World.viewLoad at hv;simp only[bind,Except.bind,pure,Except.pure]at hv;split at hv
   .cases hv
   .rename_i s hs;have o:=CF hs
    (repeat' split at hv)<;>first|cases hv;done|skip
    all_goals
     cases hv;intro x z;obtain⟨y,_,rfl⟩:=VW.1 z;exact o
 .have e1:(clean W w).farLoad PA a m= .error ((clean W w).noCell a "load: no such cell"):=by
   unfold World.farLoad;split
   .rename_i d u hb;exact absurd hb (i _ _)
   .rfl
  rcases h with h|⟨c,e,h,n⟩
  .exact .inl ⟨_,e1,h⟩
  .exact .inr (.inl ⟨_,c,e,h,by rw[e1,n]⟩)
def qK(i:WOk W)(w:I)(a:NP)(v:Z)(m:Bool):(∃e,(clean W w).farStore PA a v m= .error e/\Dead e)\/(∃g c e,w.heap[g]? =U (.pending c e)/\(clean W w).farStore PA a v m= .error (.unsupported (.initOrder g)))\/∃w' l,(clean W w).farStore PA a v m= .ok (clean W w',l)/\w.farStore PA a v m= .ok (w',l)/\Jn W w w'/\w'.heap.size=w.heap.size/\∀x∈l,x.block<w.heap.size:=by
 rcases ae i w a "store: no such cell" with⟨h,u,j,d⟩|⟨j,d⟩
 .unfold World.farStore;rw[j,d];dsimp only;rw[pK i];cases hv:w.viewStore PA h u a v m with
  |error e=>exact .inl ⟨_,rfl,trivial⟩
  |ok r=>
   obtain⟨w',l⟩:=r;refine .inr (.inr ⟨w',l,rfl,rfl,?_⟩);unfold World.viewStore at hv;simp only[bind,Except.bind,pure,Except.pure]at hv;split at hv
   .cases hv
   .split at hv
    .cases hv
    .rename_i s hs;have o:=CF hs
     (repeat' split at hv)<;>first|cases hv;done|skip
     all_goals
      cases hv;refine⟨Jn.set i (i.cells _ _ _) _,OD,λx z=> ?_⟩;obtain⟨y,_,rfl⟩:=VW.1 z;exact o
 .have e1:(clean W w).farStore PA a v m= .error ((clean W w).noCell a "store: no such cell"):=by
   unfold World.farStore;split
   .rename_i h u hb;exact absurd hb (j _ _)
   .rfl
  rcases d with d|⟨c,e,d,n⟩
  .exact .inl ⟨_,e1,d⟩
  .exact .inr (.inl ⟨_,c,e,d,by rw[e1,n]⟩)
def ed{w:I}{l:List NP}{s:Bool}(h:∀x∈l,x.block<w.heap.size):∀e∈(l.toArray.map (⟨.cell ·,wr,s⟩):Array Event),EvW w.heap.size e:=by
 intro e d;obtain⟨a,c,rfl⟩:=Array.mem_map.1 d;exact EX (h a (by simpa using c))
def SE.run(y:WOk W)(hF:Far PA PB){X Y:Sem α}(h:SE PA PB W A X Y):∀(w:I)(d:Array Event),Out W A w d (X.run PA (clean W w)) (Y.runT PB w d):=by
 induction h with
 |pure h=>exact λw d=> .inr ⟨w,#[],Jn.refl _ _,XA _,λe j=>by simp at j,.inl ⟨_,rfl,by simp[Sem.runT],h⟩⟩
 | @load m a k z _ i=>
   intro w d;simp only[Sem.run,Sem.runT];rw[HX y];cases hc:w.cell? a with
   |some v=>exact Out.one (Jn.refl _ _) (XA _) (EX (cS hc)) (i v w _)
   |none=>
    rw[hF.load];rcases jd (PA:=PA) y w a (m== .atomic)with⟨e,j,L⟩|⟨g,c,e,T,j⟩|⟨v,l,j,G7,hl⟩
    .simp only[j];exact .inl ⟨_,_,rfl,L⟩
    .simp only[j];exact .inr ⟨w,#[],Jn.refl _ _,XA _,λe j=>by simp at j,.inr (.inr ⟨g,c,e,T,rfl⟩)⟩
    .simp only[j,G7];exact Out.step (Jn.refl _ _) (XA _) (ed hl) rfl (i v w _)
 | @store m a v k z _ i=>
   intro w d
   have E:Out W A w d (match (clean W w).cell? a with
    |some _=>if(clean W w).frozen? a then Result.halt (.unsupported (.unsafePointer "a write to bytes that a string shares")) (clean W w)else k.run PA ((clean W w).setCell a v)
    |none=>match (clean W w).farStore PA a v (m== .atomic)with
     | .ok (w,_)=>k.run PA w
     | .error h=> .halt h (clean W w)) (match w.cell? a with
    |some _=>if w.frozen? a then(Result.halt (.unsupported (.unsafePointer "a write to bytes that a string shares")) w,d)else z.runT PB (w.setCell a v) (d.push ⟨.cell a,J,m== .atomic⟩)
    |none=>match w.farStore PB a v (m== .atomic)with
     | .ok (w,touched)=>z.runT PB w (d++touched.toArray.map (⟨.cell ·,J,m== .atomic⟩))
     | .error h=>(.halt h w,d)):=by
    rw[HX y,AX y];cases hc:w.cell? a with
    |some _=>
     dsimp only;split
     .exact .inl ⟨_,_,rfl,trivial⟩
     .have hz:(w.setCell a v).heap.size=w.heap.size:=(by simp[World.setCell]);rw[<-jW y];exact Out.one (w1:=w.setCell a v) (Jn.setCell y _ _ _) OA (by rw[hz];exact EX (cS hc)) (i _ _)
    |none=>
     dsimp only;rw[hF.store];rcases qK (PA:=PA) y w a v (m== .atomic)with⟨e,j,L⟩|⟨g,c,e,T,j⟩|⟨w',l,j,G7,M,hz,hl⟩
     .simp only[j];exact .inl ⟨_,_,rfl,L⟩
     .simp only[j];exact .inr ⟨w,#[],Jn.refl _ _,XA _,λe j=>by simp at j,.inr (.inr ⟨g,c,e,T,rfl⟩)⟩
     .simp only[j,G7];exact Out.step (w1:=w') M OA (ed (λx hx=>by rw[hz];exact hl x hx)) rfl (i _ _)
   cases v<;>first|exact E|exact .inl ⟨_,_,rfl,trivial⟩
 | @new o k z F _ i=>
   intro w d;simp only[Sem.run,Sem.runT];rw[Oa,<-pF F];exact Out.still (w1:={w with heap:=w.heap.push o}) (Jn.push y F) OD (i _ _ d)
 |shape _ i=>exact λw d=>by simp only[Sem.run,Sem.runT];rw[nt y];exact i _ w d
 | @freeze a n k z _ i=>exact λw d=>by simp only[Sem.run,Sem.runT];rw[<-oA y];exact Out.still (w1:=w.freeze a n) (Jn.freeze y _ _ _) (by rw[qV];exact XA _) (i _ d)
 |frozen _ i=>exact λw d=>by simp only[Sem.run,Sem.runT];rw[AX y];exact i _ w d
 | @getObj r k z _ _ _ i O a0=>
   intro w d;simp only[Sem.run,Sem.runT];rw[SX];cases F:w.heap[r]? with
   |none=>exact .inl ⟨_,_,rfl,trivial⟩
   |some o=>
    have H:=(YF.1 F).1;by_cases C:Rd W o
    .rw[XN,Vh C]
     have:=λd=>show Out W A w d ((k o).run PA (clean W w)) ((z o).runT PB w d) by
      rcases C with C|⟨c,e,rfl⟩
      .exact i o C w d
      .exact O c e w d
     cases o<;>first|exact .inl ⟨_,_,rfl,trivial⟩|exact Out.one (Jn.refl _ _) (XA _) (HA H) (this _)
    .rw[XN,Uj C];have:=a0 o C w;cases o<;>first|exact(C (Px y _ _ _)).elim|exact Out.one (Jn.refl _ _) (XA _) (HA H) (this _)
 | @setObj r o k z V _ i=>
   intro w d;simp only[Sem.run,Sem.runT];rw[SX];cases F:w.heap[r]? with
   |none=>exact .inl ⟨_,_,rfl,trivial⟩
   |some o'=>
    have H:=(YF.1 F).1
    have E:∀es',Out W A {w with heap:=w.heap.setIfInBounds r o} es' (k.run PA {clean W w with heap:=(clean W w).heap.setIfInBounds r o}) (z.runT PB {w with heap:=w.heap.setIfInBounds r o} es'):=λes'=>by
     rw[<-ca V];exact i _ es'
    by_cases C:Rd W o'
    .rw[XN,Vh C];cases o'<;>first|exact .inl ⟨_,_,rfl,trivial⟩|exact Out.one (w1:={w with heap:=w.heap.setIfInBounds r o}) (Jn.set y V _) OD (HA (by simpa using H)) (E _)
    .rw[XN,Uj C];cases o'<;>first|exact(C (Px y _ _ _)).elim|exact Out.one (w1:={w with heap:=w.heap.setIfInBounds r o}) (Jn.set y V _) OD (HA (by simpa using H)) (E _)
 | @choose q k z _ i=>
   intro w d;simp only[Sem.run,Sem.runT];split
   .exact i 0 w d
   .exact Out.still (w1:={w with drawn:=w.drawn+1}) ⟨λ_ _ h=> .inl h,λ_ _ _ h=>h⟩ (XA _) (i _ {w with drawn:=w.drawn+1} d)
 | @sys c k z _ i=>
   intro w d;simp only[Sem.run,Sem.runT];rw[jc];have hh:=ot w c;exact Out.one (w1:=(w.sys c).2) ⟨λb o K=> .inl (by rw[hh];exact K),λb c e K=>by rw[hh]at K;exact K⟩ (by rw[hh];exact XA _) (e:=⟨.output,J,ND⟩) ⟨trivial,OD,OD⟩ (i _ _ _)
 |program _ i=>exact λw d=>i w d
 | @mark m k z hm _ i=>exact λw d=>Out.one (Jn.refl _ _) (XA _) (e:=⟨.mark m,ND,J⟩) (by cases m<;>first|exact hm.elim|exact⟨trivial,OD,OD⟩) (i w _)
 |panic=>exact λw d=> .inr ⟨w,#[],Jn.refl _ _,XA _,λe j=>by simp at j,.inr (.inl ⟨_,rfl,by simp[Sem.runT]⟩)⟩
 |dead h=>exact λw d=> .inl ⟨_,_,rfl,h⟩
 |markDead h=>exact λw d=> .inl ⟨_,_,rfl,h⟩
end
end
section
open Go.Nk (Ban Z6 PN Xb BT aN GS dq Tu WZ U0 PZ EK MJ EJ EF)
variable [Ban]
section
variable (P:NO)(fs:Array Func)
def lg{γ:Type}{c:Prop}(i j:Decidable c)(a b:γ): @ite γ c i a b= @ite γ c j a b:=by congr
def qG(t:NT):(Z6 P fs).underlyingId t=P.underlyingId t:=rfl
def withF_sameLayout:∀d,sameLayout (Z6 P fs) d=sameLayout P d
 |0=>rfl
 |d+1=>by
  funext t u;simp only[sameLayout,withF_sameLayout d,Xb,qG,MJ]
def DH(f:NT->Bool):∀d,rowAt (Z6 P fs) f d=rowAt P f d
 |0=>rfl
 |d+1=>by
  funext e c o n;simp only[rowAt,DH f d,Xb,WZ,MJ];rfl
def withF_liesAt:∀d,liesAt (Z6 P fs) d=liesAt P d
 |0=>rfl
 |d+1=>by
  funext e c o u n;simp only[liesAt,withF_liesAt d,Xb,DH,withF_sameLayout,Tu]
def withF_holdsStoodIn:∀d,(Z6 P fs).holdsStoodIn d=P.holdsStoodIn d
 |0=>rfl
 |d+1=>by
  funext t;simp only[Program.holdsStoodIn,withF_holdsStoodIn d,Xb,MJ]
def IE(t:NT):(Z6 P fs).packed t=P.packed t:=by
 unfold Program.packed Program.packedAs;simp only[EF];rfl
def withF_holdsPacked:∀d,(Z6 P fs).holdsPacked d=P.holdsPacked d
 |0=>rfl
 |d+1=>by
  funext t;simp only[Program.holdsPacked,withF_holdsPacked d,Xb,IE]
end
class Cx where
 P:NO
 fs:Array Func
 W:Obj->Prop
 ok:WOk W
 view:∀a t,W (.view a t)
 num:∀a l,W (.number a l)
 map:∀e c,W (.map e c)
 sit:∀s n,W (.stringIter s n)
 mit:∀a b c d,W (.mapIter a b c d)
variable [Cx]
open Cx
class S{α:Type}(X:Sem α):Prop where
 h:SE (Z6 P fs) P W (λ_=>True) X X
section
variable {α β:Type}
theorem S.to{B:β->Prop}{X:Sem α}{f g:α->Sem β}[S X](c:∀a,SE (Z6 P fs) P W B (f a) (g a)):SE (Z6 P fs) P W B (X>>=f) (X>>=g):=S.h.bind λa _=>c a
theorem S.bindT{X:Sem α}{f:α->Sem β}(h:S X)(c:∀a,S (f a)):S (X>>=f):=⟨h.h.bind λa _=>(c a).h⟩
instance {X:Sem α}{f:α->Sem β}[S X][∀a,S (f a)]:S (X>>=f):=S.bindT inferInstance inferInstance
theorem S.prog{g:NO->Sem β}(e:g (Z6 P fs)=g P)(h:S (g P)):S (Go.program>>=g):=⟨.program (by show SE _ _ _ _ (g (Z6 P fs)) (g P);rw[e];exact h.h)⟩
theorem S.ite{c:Prop}[Decidable c]{X Y:Sem β}(h:c->S X)(d:¬c->S Y):S (if c then X else Y):=by
 by_cases a:c
 .rw[YZ a];exact h a
 .rw[XB a];exact d a
instance {a:α}:S (Pure.pure a:Sem α):=⟨.pure trivial⟩
instance {s:String}:S (stuck s:Sem α):=⟨.dead (h:= .stuck s) trivial⟩
theorem S.unsup{u:Unsupported}(h:∀g,u≠.initOrder g):S (unsupported u:Sem β):=⟨.dead (h:= .unsupported u) (by cases u<;>first|trivial|exact absurd rfl (h _))⟩
instance {v:Z}:S (goPanic v:Sem α):=⟨.panic⟩
instance (a:NP)(m:Mode):S (Go.load a m):=⟨.load λ_=> .pure trivial⟩
instance (a:NP)(v:Z)(m:Mode):S (Go.store a v m):=⟨.store (.pure trivial)⟩
theorem S.new(o:Obj)(h:W o):S (newObj o):=⟨.new h λ_=> .pure trivial⟩
instance (c e f):S (newObj (.cells c e f)):=S.new _ (ok.cells _ _ _)
instance (a t):S (newObj (.view a t)):=S.new _ (view _ _)
instance (a l):S (newObj (.number a l)):=S.new _ (num _ _)
instance (e c):S (newObj (.map e c)):=S.new _ (map _ _)
instance (r e c):S (setObj r (.map e c)):=⟨.setObj (map _ _) (.pure trivial)⟩
instance (r:Nat):S (Go.shape r):=⟨.shape λ_=> .pure trivial⟩
instance (a:NP)(n:Nat):S (Go.freeze a n):=⟨.freeze (.pure trivial)⟩
instance (a:NP):S (Go.frozen a):=⟨.frozen λ_=> .pure trivial⟩
theorem S.getB{r:Nat}{f:Obj->Sem β}(a:∀o,¬Rd W o->SE (Z6 P fs) P W (λ_=>True) (f Knob) (f o))(h:∀o,S (f o)):S (getObj r>>=f):=⟨.getObj (λo _=>(h o).h) (λc e=>(h _).h) a⟩
instance (q:Question):S (Go.choose q):=⟨.choose λ_=> .pure trivial⟩
instance (c:Sys):S (Go.sys c):=⟨.sys λ_=> .pure trivial⟩
instance :S (Go.mark .noRoom):=⟨.mark trivial (.pure trivial)⟩
instance {γ σ:Type}(f:γ->σ->Sem (ForInStep σ))[h:∀x s,S (f x s)](l:List γ)(s:σ):S (forIn l s f):=by
 induction l generalizing s with
 |nil=>exact⟨.pure trivial⟩
 |cons x l a=>
  rw[List.forIn_cons];refine S.bindT (h x s) λr=> ?_
  cases r<;>first|exact⟨.pure trivial⟩|exact a _
theorem S.forA{γ σ:Type}(f:γ->σ->Sem (ForInStep σ))(h:∀x s,S (f x s))(l:Array γ)(s:σ):S (forIn l s f):=by
 rw[<-RM]
 infer_instance
theorem S.forR{σ:Type}(f:Nat->σ->Sem (ForInStep σ))(h:∀x s,S (f x s))(l:Std.Legacy.Range)(s:σ):S (forIn l s f):=by
 rw[VY]
 infer_instance
theorem S.mapL{γ δ:Type}(f:γ->Sem δ)(a:∀x,S (f x))(l:List γ):S (l.mapM f):=by
 induction l with|nil=>rw[List.mapM_nil];infer_instance|cons x l _=>rw[List.mapM_cons];infer_instance
theorem S.mapA{γ δ:Type}(f:γ->Sem δ)(a:∀x,S (f x))(l:Array γ):S (l.mapM f):=by
 rw[RG];exact S.bindT (S.mapL f a _) λ_=>⟨.pure trivial⟩
theorem S.of{X Y:Sem α}(e:X=Y)(h:S Y:=by(repeat' first|infer_instance|exact S.unsup OD|(dsimp only)|((with_reducible refine S.prog ?_ ?_);focus first|(simp only[PN,Xb,BT,aN,GS,dq,Tu,WZ,U0,PZ,EK,MJ,EJ,DH,withF_liesAt,withF_holdsPacked,withF_holdsStoodIn]<;>first|with_reducible rfl|exact lg _ _ _ _|rfl)|rfl)|with_reducible refine S.mapA _ (λ_=> ?_) _|with_reducible refine S.forA _ (λ_ _=> ?_) _ _|with_reducible refine S.forR _ (λ_ _=> ?_) _ _|((with_reducible refine S.getB ?_ λ_=> ?_);focus (intro o a;cases o<;>first|exact(a (.inr ⟨_,_,rfl⟩)).elim|exact(a (.inl (by first|exact ok.cells _ _ _|exact view _ _|exact num _ _|exact map _ _|exact sit _ _|exact mit _ _ _ _))).elim|exact .dead (h:= .stuck _) trivial|exact .pure trivial))|with_reducible refine S.bindT ?_ λ_=> ?_|with_reducible refine S.ite (λ_=> ?_) (λ_=> ?_)|split|(intro _))):S X:=e▸h
instance (a n i acc):S (loadCellsFrom a i n acc):=by induction n generalizing i acc with|zero=>exact⟨.pure trivial⟩|succ n c=>exact⟨.load λv=>(c _ _).h⟩
instance (a c i):S (storeCells a c i):=by induction c generalizing i with|nil=>exact⟨.pure trivial⟩|cons v c d=>exact⟨.store (d _).h⟩
instance (n a acc):S (loadBytes a acc n):=by
 induction n generalizing a acc with|zero=>exact⟨.pure trivial⟩|succ n c=>exact⟨.load λv=>by dsimp only[Sem.bind];split<;>first|exact(c _ _).h|exact S.h (X:=stuck _)⟩
instance (t):S (typeInfo t):= .of (typeInfo.eq_def t)
instance (t):S (Go.underlying t):= .of (Go.underlying.eq_def t)
instance (t):S (sizeOf t):= .of (sizeOf.eq_def t)
instance (t):S (isAgg t):= .of (isAgg.eq_def t)
instance (t):S (zeroValue t):= .of (zeroValue.eq_def t)
instance (t):S (typeStr t):= .of (typeStr.eq_def t)
instance (t):S (elemOf t):= .of (elemOf.eq_def t)
instance (a n):S (loadCells a n):= .of (loadCells.eq_def a n)
instance (t a):S (loadVar t a):= .of (loadVar.eq_def t a)
instance (t a v):S (storeVar t a v):= .of (storeVar.eq_def t a v)
instance (t c):S (newRow t c):= .of (newRow.eq_def t c)
instance (t c):S (newVar t c):= .of (newVar.eq_def t c)
instance (t c n):S (part t c n):= .of (part.eq_def t c n)
instance (v):S (asIntOf v):= .of (asIntOf.eq_def v)
instance (v):S (asInt v):= .of (asInt.eq_def v)
instance (v):S (asBool v):= .of (asBool.eq_def v)
instance (v):S (asString v):= .of (asString.eq_def v)
instance (v):S (asAgg v):= .of (asAgg.eq_def v)
instance (e:RuntimeError):S (runtimePanic e:Sem α):=by
 unfold runtimePanic;refine S.prog rfl ?_;cases e<;>infer_instance
instance (k x y c):S (boundsPanic k x y c:Sem α):=by
 unfold boundsPanic;dsimp only;refine S.ite (λ_=>⟨.choose λ_=> ?_⟩) (λ_=>inferInstance);dsimp only[Sem.bind,Function.comp];exact S.h (X:=runtimePanic _)
instance (v):S (asAddr v):= .of (asAddr.eq_def v)
instance (r):S (viewAt r):= .of (viewAt.eq_def r)
instance (r):S (numberAt r):= .of (numberAt.eq_def r)
instance (r):S (cellsIn r):= .of (cellsIn.eq_def r)
instance (a):S (behindNumber a):= .of (behindNumber.eq_def a)
instance (a):S (noView a):= .of (noView.eq_def a)
instance (a):S (markStringish a):= .of (markStringish.eq_def a)
instance (a):S (stringish a):= .of (stringish.eq_def a)
instance (a b):S (mayBeOne a b):= .of (mayBeOne.eq_def a b)
instance (a b):S (sameAddr a b):= .of (sameAddr.eq_def a b)
instance (a b):S (samePointer a b):= .of (samePointer.eq_def a b)
instance (n):S (askRoom n):= .of (askRoom.eq_def n)
instance (a):S (byteOf a):= .of (byteOf.eq_def a)
instance (a c b):S (partAt a c b):= .of (partAt.eq_def a c b)
instance (a f):S (fieldPlace a f):= .of (fieldPlace.eq_def a f)
instance (a u n):S (variablesAt a u n):= .of (variablesAt.eq_def a u n)
instance (t b v):S (Instr.alloc t b v):= .of (Instr.alloc.eq_def t b v)
instance (t v):S (Instr.box t v):= .of (Instr.box.eq_def t v)
instance (v):S (Instr.sureAddr v):= .of (Instr.sureAddr.eq_def v)
instance (t v):S (Instr.loadAt t v):= .of (Instr.loadAt.eq_def t v)
instance (t v x):S (Instr.storeAt t v x):= .of (Instr.storeAt.eq_def t v x)
instance (t v n):S (Instr.fieldAt t v n):= .of (Instr.fieldAt.eq_def t v n)
instance (t v x):S (Instr.indexAt t v x):= .of (Instr.indexAt.eq_def t v x)
instance (v y c):S (Instr.sliceBound v y c):= .of (Instr.sliceBound.eq_def v y c)
instance (b l c x y z):S (Instr.sliceBounds b l c x y z):= .of (Instr.sliceBounds.eq_def b l c x y z)
instance (t v x y z):S (Instr.slice t v x y z):= .of (Instr.slice.eq_def t v x y z)
instance (t v x y z):S (Instr.sliceAt t v x y z):= .of (Instr.sliceAt.eq_def t v x y z)
instance (t v n):S (Instr.field t v n):= .of (Instr.field.eq_def t v n)
instance (t v x):S (Instr.index t v x):= .of (Instr.index.eq_def t v x)
instance (t v x):S (Instr.makeSlice t v x):= .of (Instr.makeSlice.eq_def t v x)
instance (t ps):S (Instr.build t ps):= .of (Instr.build.eq_def t ps)
instance (t n ps):S (Instr.buildSlice t n ps):= .of (Instr.buildSlice.eq_def t n ps)
instance (t v):S (Instr.makeInterface t v):= .of (Instr.makeInterface.eq_def t v)
instance (v x a b):S (Instr.typeAssert v x a b):= .of (Instr.typeAssert.eq_def v x a b)
instance (v n):S (Instr.extract v n):= .of (Instr.extract.eq_def v n)
instance (d t x y):S (Op.equalIn d t x y):=by
 induction d generalizing t x y with|zero=>exact S.unsup OD|succ d _=>exact .of (Op.equalIn.eq_def (d+1) t x y)
instance (d t x y):S (Op.eqGuardIn d t x y):=by
 induction d generalizing t x y with|zero=>exact S.unsup OD|succ d _=>exact .of (Op.eqGuardIn.eq_def (d+1) t x y)
instance (t x y):S (Op.equal t x y):= .of (Op.equal.eq_def t x y)
instance (op t x y a b):S (eqGuard op t x y a b):= .of (eqGuard.eq_def op t x y a b)
instance (op k x j y):S (Op.shift op k x j y):= .of (Op.shift.eq_def op k x j y)
instance (op k x y):S (Op.intArith op k x y):= .of (Op.intArith.eq_def op k x y)
instance (op k x y):S (Op.intDiv op k x y):= .of (Op.intDiv.eq_def op k x y)
instance (op k x y):S (Op.intBits op k x y):= .of (Op.intBits.eq_def op k x y)
instance (op k x y):S (Op.floatArith op k x y):= .of (Op.floatArith.eq_def op k x y)
instance (op k x y):S (Op.floatCmp op k x y):= .of (Op.floatCmp.eq_def op k x y)
instance (op x y):S (Op.intCmp op x y):= .of (Op.intCmp.eq_def op x y)
instance (op x y):S (Op.stringOp op x y):= .of (Op.stringOp.eq_def op x y)
instance (op x):S (Op.unary op x):= .of (Op.unary.eq_def op x)
instance (op k x y):S (Op.Complex.arith op k x y):= .of (Op.Complex.arith.eq_def op k x y)
instance (op k x y):S (Op.Complex.cmp op k x y):= .of (Op.Complex.cmp.eq_def op k x y)
instance (k x j):S (Conv.floatToFloat k x j):= .of (Conv.floatToFloat.eq_def k x j)
instance (k x j):S (Op.Complex.conv k x j):= .of (Op.Complex.conv.eq_def k x j)
instance (x y):S (Op.Complex.add x y):=inferInstanceAs (S (Op.Complex.arith .add .f64 x y))
instance (x y):S (Op.Complex.sub x y):=inferInstanceAs (S (Op.Complex.arith .sub .f64 x y))
instance (x y):S (Op.Complex.mul x y):=inferInstanceAs (S (Op.Complex.arith .mul .f64 x y))
instance (x y):S (Op.Complex.quo x y):=inferInstanceAs (S (Op.Complex.arith .quo .f64 x y))
instance (a b c d):S (Op.Complex.product a b c d):= .of (Op.Complex.product.eq_def a b c d)
instance (s a b c d):S (Op.Complex.corrected s a b c d):= .of (Op.Complex.corrected.eq_def s a b c d)
instance (a b c d):S (Op.Complex.quotient a b c d):= .of (Op.Complex.quotient.eq_def a b c d)
instance (op k a b c d):S (Op.complexOp op k a b c d):= .of (Op.complexOp.eq_def op k a b c d)
instance (a b):S (Op.twoPlaces a b):= .of (Op.twoPlaces.eq_def a b)
instance (k a b):S (Op.addrSub k a b):= .of (Op.addrSub.eq_def k a b)
instance (op a b):S (Op.addrCmp op a b):= .of (Op.addrCmp.eq_def op a b)
instance (k a n):S (Op.addrMod k a n):= .of (Op.addrMod.eq_def k a n)
instance (ts t xs):S (Builtin.unsafeAdd_ ts t xs):=by
 unfold Builtin.unsafeAdd_;obtain⟨l⟩:=xs;rcases l with _|⟨a,_|⟨b,_|⟨c,l⟩⟩⟩
 rotate_left 2
 .cases a with
  |pointer p=>exact S.of rfl (S.bindT (X:=asInt b) inferInstance λn=> .of rfl)
  |_=>exact inferInstanceAs (S (stuck _))
 all_goals exact inferInstanceAs (S (stuck _))
instance (a l):S (asNumber a l):= .of (asNumber.eq_def a l)
instance (t x y):S (movedNumber t x y):= .of (movedNumber.eq_def t x y)
instance (t x y):S (movedPointer t x y):= .of (movedPointer.eq_def t x y)
instance (op t x y):S (binOp op t x y):= .of (binOp.eq_def op t x y)
instance (a):S (Conv.seenAt a):= .of (Conv.seenAt.eq_def a)
instance (s d x):S (Conv.unsafePointer s d x):= .of (Conv.unsafePointer.eq_def s d x)
instance (e s):S (Conv.stringToBytes e s):= .of (Conv.stringToBytes.eq_def e s)
instance (e s):S (Conv.stringToRunes e s):= .of (Conv.stringToRunes.eq_def e s)
instance (x):S (Conv.bytesToString x):= .of (Conv.bytesToString.eq_def x)
instance (x):S (Conv.runesToString x):= .of (Conv.runesToString.eq_def x)
instance (k n):S (Conv.intToInt k n):= .of (Conv.intToInt.eq_def k n)
instance (n):S (Conv.intToString n):= .of (Conv.intToString.eq_def n)
instance (k n):S (Conv.intToFloat k n):= .of (Conv.intToFloat.eq_def k n)
instance (k n j):S (Conv.floatToInt k n j):= .of (Conv.floatToInt.eq_def k n j)
instance (k a b j):S (Conv.complexToComplex k a b j):= .of (Conv.complexToComplex.eq_def k a b j)
instance (s d x):S (convert s d x):= .of (convert.eq_def s d x)
instance (a n):S (Builtin.holdsCells a n):= .of (Builtin.holdsCells.eq_def a n)
instance (s l n b x):S (Builtin.mayShare s l n b x):= .of (Builtin.mayShare.eq_def s l n b x)
instance (x):S (Builtin.lenOf x):= .of (Builtin.lenOf.eq_def x)
instance (s n x):S (Builtin.firstCells s n x):= .of (Builtin.firstCells.eq_def s n x)
instance (ts t xs):S (Builtin.append_ ts t xs):= .of (Builtin.append_.eq_def ts t xs)
instance (ts t xs):S (Builtin.len_ ts t xs):= .of (Builtin.len_.eq_def ts t xs)
instance (ts t xs):S (Builtin.cap_ ts t xs):= .of (Builtin.cap_.eq_def ts t xs)
instance (ts t xs):S (Builtin.copy_ ts t xs):= .of (Builtin.copy_.eq_def ts t xs)
instance (x y):S (Builtin.max2 x y):= .of (Builtin.max2.eq_def x y)
instance (x y):S (Builtin.min2 x y):= .of (Builtin.min2.eq_def x y)
instance (f:Z->Z->Sem Z)[h:∀x y,S (f x y)](l:List Z)(x:Z):S (l.foldlM f x):=by
 induction l generalizing x with|nil=>rw[List.foldlM_nil];infer_instance|cons y l _=>rw[List.foldlM_cons];infer_instance
instance (ts t xs):S (Builtin.max_ ts t xs):= .of (Builtin.max_.eq_def ts t xs)
instance (ts t xs):S (Builtin.min_ ts t xs):= .of (Builtin.min_.eq_def ts t xs)
instance (ts t xs):S (Builtin.unsafeSliceData_ ts t xs):=by
 unfold Builtin.unsafeSliceData_;obtain⟨l⟩:=xs;rcases l with _|⟨a,_|⟨b,l⟩⟩
 rotate_left
 .cases a with
  |slice a n c=>
   cases a with
   |none=>exact inferInstanceAs (S (pure _))
   |some a=>exact S.of (X:=if c≠0 then pure (Value.pointer (U a))else do
     if(<-viewAt a.block).isSome then pure (Value.pointer (U a))else pure (Value.pointer (U ⟨<-newObj (.view a (<-elemOf t)),0,NB⟩))) rfl
  |_=>exact inferInstanceAs (S (stuck _))
 all_goals exact inferInstanceAs (S (stuck _))
instance (ts t xs):S (Builtin.unsafeString_ ts t xs):=by
 unfold Builtin.unsafeString_;obtain⟨l⟩:=xs;rcases l with _|⟨a,_|⟨b,_|⟨c,l⟩⟩⟩
 rotate_left 2
 .cases a with
  |pointer p=>exact S.of rfl (S.bindT (X:=asInt b) inferInstance λn=> .of rfl)
  |_=>exact inferInstanceAs (S (stuck _))
 all_goals exact inferInstanceAs (S (stuck _))
instance (e d t v):S (Instr.checkKey e d t v):=by
 induction d generalizing t v with|zero=>exact S.unsup OD|succ d _=>exact .of (Instr.checkKey.eq_def e (d+1) t v)
instance (t k a i):S (Instr.findAsking t k a i):=by
 induction a generalizing i with|nil=>exact inferInstanceAs (S (pure _))|cons e a _=>exact .of (Instr.findAsking.eq_def t k (e::a) i)
instance (t k es):S (Instr.findKey t k es):= .of (Instr.findKey.eq_def t k es)
instance (t x i b):S (Instr.lookup t x i b):= .of (Instr.lookup.eq_def t x i b)
instance (x y):S (Instr.keyThatStays x y):= .of (Instr.keyThatStays.eq_def x y)
instance (t m k v):S (Instr.mapUpdate t m k v):= .of (Instr.mapUpdate.eq_def t m k v)
instance (t r):S (Instr.makeMap t r):= .of (Instr.makeMap.eq_def t r)
instance (ts t a s m):S (Builtin.ssaWrapNilChk_ ts t #[a,.string s,.string m]):=by
 unfold Builtin.ssaWrapNilChk_;cases a with
 |pointer p=>
  cases p with|some a=>exact inferInstanceAs (S (pure _))|none=>exact S.of rfl (S.bindT (X:=choose _) inferInstance λn=> .of rfl)
 |_=>exact inferInstanceAs (S (stuck _))
instance (ts t a s m):S (Builtin.ssaWrapNilChk_ ts t #[a,strVal s,strVal m]):=inferInstanceAs (S (Builtin.ssaWrapNilChk_ ts t #[a,.string _,.string _]))
instance (t p):S (Place.get t p):= .of (Place.get.eq_def t p)
instance (l t x):S (follow l t x):=by
 induction l generalizing t x with|nil=>exact inferInstanceAs (S (pure _))|cons s l _=>exact .of (follow.eq_def (s::l) t x)
instance (l t x):S (followBlind l t x):=by
 induction l generalizing t x with|nil=>exact inferInstanceAs (S (pure _))|cons s l _=>exact .of (followBlind.eq_def (s::l) t x)
instance (t x b n):S (receiverAt t x b n):= .of (receiverAt.eq_def t x b n)
instance (t v p b):S (receiverVia t v p b):= .of (receiverVia.eq_def t v p b)
instance (d t v s):S (method d t v s):=by
 induction d generalizing t v s with|zero=>exact S.unsup OD|succ d _=>exact .of (method.eq_def (d+1) t v s)
instance (d t v s):S (nilAhead d t v s):=by
 induction d generalizing t v s with|zero=>exact inferInstanceAs (S (pure _))|succ d _=>exact .of (nilAhead.eq_def (d+1) t v s)
instance :S (Instr.panicnil):= .of (Instr.panicnil.eq_def)
instance (x):S (Instr.panic x):= .of (Instr.panic.eq_def x)
end
instance (s n):S (newObj (.stringIter s n)):=S.new _ (sit _ _)
instance (a b c d):S (newObj (.mapIter a b c d)):=S.new _ (mit _ _ _ _)
instance (r s n):S (setObj r (.stringIter s n)):=⟨.setObj (sit _ _) (.pure trivial)⟩
instance (r a b c d):S (setObj r (.mapIter a b c d)):=⟨.setObj (mit _ _ _ _) (.pure trivial)⟩
instance (t x):S (Instr.range t x):=by
 refine S.of (Instr.range.eq_def t x) (S.bindT (X:=underlying t) inferInstance λd=> ?_);split
 .exact⟨.new (sit _ _) λ_=> .pure trivial⟩
 .exact⟨.new (mit _ _ _ _) λ_=> .pure trivial⟩
 .refine⟨.getObj (λo _=> ?_) (λ_ _=> .dead (h:= .stuck _) trivial) λo a=>by cases o<;>first|exact(a (.inl (map _ _))).elim|exact .dead (h:= .stuck _) trivial⟩;cases o<;>first|exact .dead (h:= .stuck _) trivial|exact .new (mit _ _ _ _) λ_=> .pure trivial
 .exact⟨.dead (h:= .stuck _) trivial⟩
instance (t x b):S (Instr.next t x b):= .of (Instr.next.eq_def t x b)
end
section
open Go.Nk (Ban Z6 O0 PN Xb WZ U0 Tu PZ)
variable [Ban]
def biW:Builtin->Bool
 | .append| .cap| .copy| .len| .max| .min| .panic| .unsafeAdd| .unsafeSliceData| .unsafeString=>J
 |_=>ND
def opW:Op->Bool
 | .move _| .assign _| .pick .. | .alloc _| .box .. | .build .. | .buildSlice .. | .load .. | .store .. | .nilCheck _| .binOp .. | .unOp .. | .convert .. | .makeInterface .. | .makeFunc .. | .makeMap .. | .makeSlice .. | .slice .. | .fieldAddr .. | .field .. | .indexAddr .. | .index .. | .lookup .. | .mapUpdate .. | .typeAssert .. | .extract .. | .panic _| .range .. | .next .. =>J
 | .call c=>match c.callee with| .builtin b=>biW b|_=>J
 |_=>ND
def codeW:Code->Bool
 | .skip| .exit _| .goto _| .label _| .ret| .refuse _=>J
 | .region _ a _=>a.toList.all (opW ·.op)
 | .seq a b| .cond _ a b| .rangeFunc _ _ a b=>codeW a&&codeW b
 | .block _ c| .loop c| .scope c=>codeW c
class Pf where
 P:NO
 fs:Array Func
variable [Pf]
open Pf
def WF(f:NS):Prop:=∃a c,fs[f]? =U a/\P.funcs[f]? =U a/\a.body=U c/\codeW c=J/\(a.name== "runtime.NumGoroutine")=ND
def Wob:Obj->Prop
 | .pending .. =>False
 | .loop l=>WF l.fn/\codeW l.assign=J/\codeW l.body=J/\∀c,l.pending=U c->codeW c=J
 | .deferred (U l)=>l=[]
 | .coro _=>False
 |_=>True
instance :Cx:=⟨P,fs,Wob,⟨λ_ _ _=>trivial,λ_ _=>trivial,λ_ h=>h,λ_ _ h=>h⟩,λ_ _=>trivial,λ_ _=>trivial,λ_ _=>trivial,λ_ _=>trivial,λ_ _ _ _=>trivial⟩
def XF(f:NS):Prop:=∃a e,fs[f]? =U a/\P.funcs[f]? =U a/\a.body=NB/\(a.name== "runtime.NumGoroutine")=ND/\Extern.findNext a=NB/\Extern.find a=U e/\∀a,S (e a)
class FsW:Prop where
 h:∀f fn',fs[f]? =U fn'->O0 fn'=J\/WF f\/XF f
 ahead:(Z6 P fs).follows .staticDataAhead=J
variable [FsW]
def NOk:Next->Prop
 | .value _| .skip=>True
 | .enter f _=>WF f
 | .round _ f _ a b=>WF f/\codeW a=J/\codeW b=J
 |_=>False
abbrev N(X:Sem Next):Prop:=SE (Z6 P fs) P Wob NOk X X
def n_v{X:Sem Z}[S X]:N (do Pure.pure (Next.value (<-X))):=S.to λ_=> .pure trivial
def n_u{X:Sem Unit}[S X]:N (do X;Pure.pure Next.skip):=S.to λ_=> .pure trivial
def OL{s:String}:N (stuck s):= .dead (h:= .stuck s) trivial
def n_nil:N (runtimePanic .nilDeref):=by
 unfold runtimePanic;exact .program .panic
def F6(f:NS)(a:Array Z):N (callFunc f a):=by
 refine .program ?_;show SE _ _ _ _ (match fs[f]? with|none=>_|some o=>_) (match P.funcs[f]? with|none=>_|some o=>_);cases hf:fs[f]? with
 |none=>exact .dead (h:= .stuck _) trivial
 |some m=>
  rcases FsW.h f m hf with h|⟨o,c,d,g,j,n,i⟩|⟨o,e,d,g,j,n,i,x,C⟩
  .simp only[O0,YG,XZ,SB]at h;obtain⟨⟨⟨⟨y,F⟩,z⟩,E⟩,hi⟩:=h;dsimp only;rw[XB (by simp[F]),YZ (by simp[y])];simp only[z,E,hi,YR,VF];exact .markDead (h:= .unsupported _) trivial
  .rw[hf]at d;cases d;rw[g];dsimp only;rw[XB (by simp[i]),XB (by simp[j])];exact .pure ⟨_,c,hf,g,j,n,i⟩
  .rw[hf]at d;cases d;rw[g];dsimp only;rw[XB (by simp[n]),YZ (by simp[j])];simp only[i,x];exact .mark trivial ((C a).h.bind λ_ _=> .pure trivial)
def GN(v:Z)(s:String)(a:Array Z):N (callMethod v s a):=by
 unfold callMethod;cases v with|iface t v=>exact .program (S.to λ_=>F6 _ _)|nilIface=>exact n_nil|_=>exact OL
instance (l):S (Instr.getLoop l):= .of (Instr.getLoop.eq_def l)
def Jb(l:Nat):SE (Z6 P fs) P Wob (λr=>Wob (.loop r)) (Instr.getLoop l) (Instr.getLoop l):=by
 unfold Instr.getLoop;refine .getObj (λo a=> ?_) (λ_ _=> .dead (h:= .stuck _) trivial) λo _=> .dead (h:= .stuck _) trivial
 cases o with|loop r=>exact .pure a|_=>exact .dead (h:= .stuck _) trivial
def qe(l:Nat)(a:Array Z):N (Instr.yield l a):=by
 unfold Instr.yield;refine(Jb l).bind λr c=> ?_
 dsimp only;split
 .exact OL
 .exact .pure ⟨c.1,c.2.1,c.2.2.1⟩
def dv(v:Z)(a:Array Z):N (do let d<-Deferred.ofValue v a;invoke d.target d.args):=by
 cases v with
 |func e x c=>
  show N (invoke (.fn e c) (x++a));cases e with
  |func f=>exact F6 _ _
  |method s=>
   unfold invoke;dsimp only;split<;>first|exact GN _ _ _|exact OL
  |methodOf t s=>
   unfold invoke;dsimp only;split
   .refine S.to λ_=> ?_
    split<;>exact GN _ _ _
   .exact OL
  |via t p f b=>
   unfold invoke;dsimp only;split
   .exact S.to λ_=>F6 _ _
   .exact OL
  |yield l=>exact qe _ _
 |nilFunc=>exact n_nil
 |_=>exact OL
def rz(e:Operand->Z)(o:Oper)(i:opW o.op=J):N (execOp e o):=by
 obtain⟨_,op,_,_,_,guard⟩:=o;cases op with
 |move x=>exact .pure trivial
 |assign x=>exact .pure trivial
 |pick c a b=>exact S.to λ_=> .pure trivial
 |nilCheck x=>
  simp only[execOp];split
  .exact n_nil
  .exact n_nil
  .exact n_nil
  .split
   .exact n_nil
   .refine .program ?_;show SE _ _ _ _ (nilAhead (P.types.size+Made.depth) _ _ _>>=_) (nilAhead (P.types.size+Made.depth) _ _ _>>=_);refine S.to λ_=> ?_
    split
    .exact .dead (h:= .unsupported _) trivial
    .exact .pure trivial
   .exact .pure trivial
  .exact .pure trivial
 |binOp o t x y u=>exact n_v (X:=do eqGuard o t x y (e x) (e y);binOp o t (e x) (e y))
 |makeFunc f a c=>exact .pure trivial
 |store t a x=>exact n_u (X:=Instr.storeAt t (e a) (e x))
 |mapUpdate t m k x=>exact n_u (X:=Instr.mapUpdate t (e m) (e k) (e x))
 |call c=>
  obtain⟨d,g,_⟩:=c;cases d with
  |builtin b=>
   cases b<;>first|cases i;done|exact n_v
  |invoke r s=>
   show N (invoke (.fn (.method s) #[]) (#[e r]++g.map e));unfold invoke;dsimp only;split<;>first|exact GN _ _ _|exact OL
  |value f=>exact dv _ _
 |_=>first|cases i;done|exact n_v
end
section
open Go.Nk (Ban Z6 PN Xb WZ U0 Tu PZ Ql)
variable [Ban]
section
variable (P:NO)(fs:Array Func)
def withF_cellHolding:∀d,cellHolding (Z6 P fs) d=cellHolding P d
 |0=>rfl
 |d+1=>by funext t b;simp only[cellHolding,withF_cellHolding d,Xb,WZ,U0];rfl
def withF_plainCell:∀d,plainCell (Z6 P fs) d=plainCell P d
 |0=>rfl
 |d+1=>by funext t b;simp only[plainCell,withF_plainCell d,Xb,WZ];rfl
def withF_tight:∀d,tight (Z6 P fs) d=tight P d
 |0=>rfl
 |d+1=>by funext t;simp only[tight,withF_tight d,Xb,U0]
def C7(c:Array Z)(e:NT):∀f,seenCells (Z6 P fs) c e f=seenCells P c e f
 |0=>rfl
 |f+1=>by funext x s;simp only[seenCells,C7 c e f,withF_cellHolding,WZ,U0,Tu]
def dI(w:I)(a:NP)(u:NT)(k:NP)(m:Bool):w.seen (Z6 P fs) a u k m=w.seen P a u k m:=by
 unfold World.seen;simp only[withF_plainCell,PZ,C7,WZ,U0,Tu];rfl
def far:Far (Z6 P fs) P:=by
 constructor
 .intro w a m;unfold World.farLoad World.viewLoad;simp only[dI]
 .intro w a v m;unfold World.farStore World.viewStore;simp only[dI,withF_tight,Tu]
end
variable [Pf] [FsW]
open Pf
section
variable {α:Type}{A:α->Prop}{X:Sem α}
def Two(A:α->Prop)(X:Sem α)(w:I):Prop:=
 (∃h w' d,X.runT (Z6 P fs) (clean Wob w) #[]=(.halt h w',d)/\Dead h)\/∃w' new d,Jn Wob w w'/\w.heap.size<=w'.heap.size/\(∀e∈new,EvW w'.heap.size e)/\
   ((∃a,X.runT (Z6 P fs) (clean Wob w) #[]=(.ok a (clean Wob w'),d)/\X.runT P w #[]=(.ok a w',new)/\A a)\/(∃v,X.runT (Z6 P fs) (clean Wob w) #[]=(.halt (.panic v) (clean Wob w'),d)/\X.runT P w #[]=(.halt (.panic v) w',new))\/
     ∃g c e,w'.heap[g]? =U (.pending c e)/\X.runT (Z6 P fs) (clean Wob w) #[]=(.halt (.unsupported (.initOrder g)) (clean Wob w'),d))
def two(h:SE (Z6 P fs) P Wob A X X)(w:I):Two A X w:=by
 have r:Out Wob A w #[] (X.run (Z6 P fs) (clean Wob w)) (X.runT P w #[]):=h.run Cx.ok (far P fs) w #[];have f:=Sem.runT_fst (Z6 P fs) X (clean Wob w) #[];unfold Two;rcases hx:X.runT (Z6 P fs) (clean Wob w) #[]with⟨x,d⟩;rw[hx]at f;rw[<-f]at r;rcases r with⟨h,w',rfl,o⟩|⟨w',new,m,i,n,⟨a,rfl,j,y⟩|⟨v,rfl,j⟩|⟨g,c,e,z,rfl⟩⟩
 .exact .inl ⟨h,w',d,rfl,o⟩
 .exact .inr ⟨w',new,d,m,i,n,.inl ⟨a,rfl,by simpa using j,y⟩⟩
 .exact .inr ⟨w',new,d,m,i,n,.inr (.inl ⟨v,rfl,by simpa using j⟩)⟩
 .exact .inr ⟨w',new,d,m,i,n,.inr (.inr ⟨g,c,e,z,rfl⟩)⟩
end
def DOk(a:List Deferred):Prop:=∀d∈a,∃r,d.target= .collected r
def qi{ps:Array Tmp}{a:Code}(j:WF f)(m:codeW a=J)(n:codeW b=J):
 SE (Z6 P fs) P Wob (λx:Nat×List Deferred=>DOk x.2) (Instr.enterLoop f t ps a b ro) (Instr.enterLoop f t ps a b ro):=by
 have g:∀(d:Nat)(mk:List Deferred),DOk mk->SE (Z6 P fs) P Wob (λx:Nat×List Deferred=>DOk x.2)
  (do pure (<-newObj (.loop {state:= .ready,pending:=NB,fn:=f,tmps:=t,params:=ps,assign:=a,body:=b,defers:=d}),mk))
  (do pure (<-newObj (.loop {state:= .ready,pending:=NB,fn:=f,tmps:=t,params:=ps,assign:=a,body:=b,defers:=d}),mk)):=
  λd mk i=> .new ⟨j,m,n,λc h=>by cases h⟩ λr=> .pure i
 unfold Instr.enterLoop;cases ro with
 |none=>exact .new rfl λr=>g _ _ λd e=>by simp at e;subst e;exact⟨_,rfl⟩
 |some l=>exact(Jb l).bind λr _=>g _ _ λd e=>by simp at e
def kH(l:Nat):SE (Z6 P fs) P Wob (λ_=>True) (Instr.beginRound l) (Instr.beginRound l):=by
 unfold Instr.beginRound;refine(Jb l).bind λr a=> .setObj a ?_
 cases r.state<;>first|exact .pure trivial|exact S.h (X:=(runtimePanic (.error _):Sem Unit))
def kY(l:Nat)(j:Option Code)(d:∀c,j=U c->codeW c=J):SE (Z6 P fs) P Wob (λ_=>True) (Instr.endRound l j) (Instr.endRound l j):=by
 unfold Instr.endRound;exact(Jb l).bind λr a=> .setObj ⟨a.1,a.2.1,a.2.2.1,d⟩ (.pure trivial)
def pU(l:Nat):SE (Z6 P fs) P Wob (λx=>∀c,x=U c->codeW c=J) (Instr.endLoop l) (Instr.endLoop l):=by
 unfold Instr.endLoop;refine(Jb l).bind λr a=> ?_
 have k:SE (Z6 P fs) P Wob (λx=>∀c,x=U c->codeW c=J) (do setObj l (.loop {r with state:= .exhausted});pure r.pending) (do setObj l (.loop {r with state:= .exhausted});pure r.pending):= .setObj a (.pure a.2.2.2);dsimp only;split
 .exact S.to λ_=>k
 .exact k
def fA(b:Nat):SE (Z6 P fs) P Wob (λl=>l=[]) (Instr.takeDeferred b) (Instr.takeDeferred b):=by
 unfold Instr.takeDeferred;refine .getObj (λo a=> ?_) (λ_ _=> .dead (h:= .stuck _) trivial) λo _=> .dead (h:= .stuck _) trivial
 cases o with
 |deferred d=>
  cases d with|none=>exact .dead (h:= .stuck _) trivial|some l=>exact .setObj trivial (.pure a)
 |_=>exact .dead (h:= .stuck _) trivial
instance (fn t):S (results fn t):= .of (results.eq_def fn t)
def itW:Item->Prop
 | .code c| .inLoop c| .inScope c=>codeW c=J
 | .inRegion a _=>a.toList.all (opW ·.op)=J
 | .inBlock _| .inRangeFunc _| .endRangeFunc _| .beginRound=>True
 |_=>False
structure FO(fr:NN):Prop where
 wf:WF fr.fn
 todo:∀i∈fr.todo,itW i
 defers:DOk fr.defers
 kind:fr.kind= .normal
def SO:NN->List NN->Prop
 |fr,[]=>FO fr/\fr.roundOf=NB
 |fr,c::cs=>FO fr/\SO c cs
def SO.fo(h:SO fr cs):FO fr:=by cases cs<;>exact h.1
def SO.put(h:SO fr cs)(a:FO fr')(d:fr'.roundOf=fr.roundOf):SO fr' cs:=by
 cases cs with|nil=>exact⟨a,d.trans h.2⟩|cons c cs=>exact⟨a,h.2⟩
def FO.finish{fr:NN}(h:FO fr)(v:Z):FO (fr.finish v):=by
 obtain⟨C,_,m,a,d,g,ro⟩:=fr;obtain⟨x,n,y,o⟩:=h;cases m with
 |nil=>exact⟨x,n,y,o⟩
 |cons i k=>
  have z:∀i∈k,itW i:=λi hi=>n i (YW _ hi)
  have e:=n i YY
  have c:∀(j:Item)(t:Array Z),itW j->FO ⟨C,t,j::k,a,d,g,ro⟩:=λj t E=>⟨x,λi hi=>by
   rcases XG.1 hi with rfl|hi
   .exact E
   .exact z i hi,y,o⟩
  cases i with
  |inRegion _ l=>cases l with|nil=>exact c _ _ e|cons i l=>exact c _ _ e
  |inRangeFunc l=>exact c _ _ trivial
  |beginRound=>exact⟨x,z,y,o⟩
  |call=>exact e.elim
  |extern=>exact e.elim
  |_=>exact c _ _ e
def Ug(fr:NN)(v:Z):(fr.finish v).roundOf=fr.roundOf:=by
 unfold Frame.finish;split<;>rfl
def FO.raise{fr:NN}(h:FO fr)(c:List PanicEntry):FO (fr.raise c):=by
 unfold Frame.raise;split<;>exact⟨h.wf,h.todo,h.defers,h.kind⟩
def GH(fr:NN)(c:List PanicEntry):(fr.raise c).roundOf=fr.roundOf:=by
 unfold Frame.raise;split<;>rfl
def FO.enter{f:NS}(m:WF f)(a:Array Z):FO (Frame.enter P f a .normal):=by
 obtain⟨n,c,o,e,h,g,x⟩:=m;refine⟨⟨n,c,o,e,h,g,x⟩,λi hi=> ?_,λd j=>by simp[Frame.enter]at j,rfl⟩;simp only[Frame.enter,e,SK,h,UM,XP]at hi;subst hi;exact g
def qg(d:WF f)(a:Array Z)(k:CallKind):Frame.enter (Z6 P fs) f a k=Frame.enter P f a k:=by
 obtain⟨e,c,g,c,_,_,_⟩:=d;have e1:(Z6 P fs).funcs[f]? =U e:=g;simp only[Frame.enter,e1,c]
def FO.round{l:Nat}{f:NS}{t:Array Z}{a b:Code}(e:WF f)(g:codeW a=J)(h:codeW b=J):FO (Frame.round l f t a b .normal):=
 ⟨e,λi hi=>by
   simp only[Frame.round,XG,XO,UE]at hi;rcases hi with rfl|rfl|rfl
   .exact g
   .trivial
   .exact h,λd c=>by simp[Frame.round]at c,rfl⟩
end
section
open Go.Nk (Ban Z6 Ql)
variable [Ban] [Pf] [FsW]
open Pf
section
variable {l bot:List NN}{w:I}
def S5(fr:NN)(l bot bot':List NN)(w:I)(x y:GStep):Prop:=
 (∃o w1 a,x= .ended o w1 a)\/
 (∃a e w1 d c,x= .go (G a (e++bot)) (clean Wob w1) d/\y= .go (G a (e++bot')) w1 c/\SO a e/\Jn Wob w w1/\w.heap.size<=w1.heap.size/\∀e∈c,EvW w1.heap.size e)
def GT(h:SO fr l){fr1:NN}(c:FO fr1)(g:fr1.roundOf=fr.roundOf){a:Array Event}:S5 fr l bot bot' w (.go (G fr1 (l++bot)) (clean Wob w) a) (.go (G fr1 (l++bot')) w #[]):=
 .inr ⟨fr1,l,w,a,#[],rfl,rfl,h.put c g,Jn.refl _ _,XA _,λe d=>by simp at d⟩
def FO.to(h:FO fr){k:List Item}(a:∀i∈k,itW i):FO {fr with todo:=k}:=⟨h.wf,a,h.defers,h.kind⟩
def Ts{B:Nat}{a:Array Event}(h:∀e∈a,EvW B e):∀e∈seen p f a++ #[],EvW B e:=λe c=>h e (Ql p f a e (by simpa using c))
def PW(w:I):Prop:=∀(b:Nat) c e,w.heap[b]? =U (.pending c e)->(Z6 P fs).stepOf b=NB
def PW.jn{w:I}(h:PW w)(j:Jn Wob w w'):PW w':=λb c e a=>h b c e (j.pend b c e a)
def JY(n:SO fr l)(T:PW w){X:Sem Next}(K:N X):S5 fr l bot bot' w (stepG.apply (Z6 P fs) J fr (l++bot) NB X (clean Wob w)) (stepG.apply P J fr (l++bot') NB X w):=by
 have y:=n.fo;have d:(fr.kind==CallKind.early)=ND:=by rw[y.kind];rfl
 rcases two K w with⟨h,w',F,c,C⟩|⟨w',new,F,j,x,z,⟨a,c,m,o⟩|⟨v,c,m⟩|⟨g,H,E,L,c⟩⟩
 .left
  cases h with
  |stuck s=>exact⟨_,_,_,by simp only[stepG.apply,XY,c];rfl⟩
  |unsupported u=>
   cases u with|initOrder _=>exact C.elim|_=>exact⟨_,_,_,by simp only[stepG.apply,XY,c];rfl⟩
  |_=>exact C.elim
 .right
  cases a with
  |value v=>exact⟨fr.finish v,l,w',_,_,by simp only[stepG.apply,XY,c,d,YR,VF];rfl,by simp only[stepG.apply,XY,m,d,YR,VF];rfl,n.put (y.finish v) (Ug _ _),j,x,Ts z⟩
  |skip=>exact⟨fr.finish undef,l,w',_,_,by simp only[stepG.apply,XY,c,d,YR,VF];rfl,by simp only[stepG.apply,XY,m,d,YR,VF];rfl,n.put (y.finish _) (Ug _ _),j,x,Ts z⟩
  |enter f a=>
   refine⟨Frame.enter P f a .normal,fr::l,w',seen (Z6 P fs) fr.fn F++ #[],seen P fr.fn new++ #[],?_,?_,⟨FO.enter o _,n⟩,j,x,Ts z⟩
   all_goals
    simp only[stepG.apply,XY,c,m,d,YR,VF,qg o];rcases hk:fr.todo with _|⟨i,k⟩
    .rfl
    .have:=y.todo i (by rw[hk];exact YY);cases i<;>first|rfl|exact this.elim
  |round r f t a b=>exact⟨Frame.round r f t a b .normal,fr::l,w',_,_,by simp only[stepG.apply,XY,c,d,YR,VF];rfl,by simp only[stepG.apply,XY,m,d,YR,VF];rfl,⟨FO.round o.1 o.2.1 o.2.2,n⟩,j,x,Ts z⟩
  |_=>exact o.elim
 .right
  exact⟨fr.raise [{v,recovered:=ND}],l,w',_,_,by simp only[stepG.apply,XY,c];rfl,by simp only[stepG.apply,XY,m];rfl,n.put (y.raise _) (GH _ _),j,x,λe V=>by
   refine Ts (p:=P) (f:=fr.fn) z e ?_;simpa[d]using V⟩
 .left
  have M:=T g H E (j.pend g H E L);have O:(Z6 P fs).follows .staticDataAhead=J:=FsW.ahead;exact⟨_,_,_,by simp only[stepG.apply,XY,c,early,M,O,SZ,YR,VF];rfl⟩
def gM{E:Array Event}{x y:GStep}(z:Jn Wob w w')(m:w.heap.size<=w'.heap.size)(F:∀e∈es',EvW w'.heap.size e)(h:S5 fr' l' bot bot' w' x y):S5 fr l bot bot' w (GStep.after E x) (GStep.after es' y):=by
 rcases h with⟨o,w1,a,rfl⟩|⟨c,n,w1,a,d,rfl,rfl,i,C,g,j⟩
 .exact .inl ⟨o,w1,_,rfl⟩
 .refine .inr ⟨c,n,w1,_,es'++d,rfl,rfl,i,z.trans C,XC m g,λe he=> ?_⟩;rcases UX.1 he with he|he
  .exact(F e he).mono g
  .exact j e he
def WQ(p:NO)(fr:NN)(cs:List NN)(j:Option Code)(w:I):GStep:=
 match fr.roundOf with
 |none=>if j matches NB|some .ret then .go (G {fr with mode:= .returning} cs) w else .ended (.stuck "exit, goto: no such block or label" (fr.pos p)) w
 |some l=>
  let (r,es):=(Instr.endRound l j).runT p w #[]
  GStep.after (seen p fr.fn es) <| match r with
  | .ok v w=>doReturn p J fr cs NB v w
  | .halt _ w=> .ended (.stuck "range over a function: no such loop" (fr.pos p)) w
def oP(i:SO fr l)(j:Option Code)(o:∀c,j=U c->codeW c=J):S5 fr l bot bot' w (WQ (Z6 P fs) fr (l++bot) j (clean Wob w)) (WQ P fr (l++bot') j w):=by
 have e:=i.fo;unfold WQ;cases hr:fr.roundOf with
 |none=>
  dsimp only;clear o;generalize (match j with|none=>J|some Code.ret=>J|_=>ND)=t;cases t with
  |true=>
   simp only[XY];exact GT i (fr1:={fr with mode:= .returning,roundOf:=NB}) ⟨e.wf,e.todo,e.defers,e.kind⟩ hr.symm
  |false=>exact .inl ⟨_,_,_,rfl⟩
 |some r=>
  dsimp only;rcases two (kY r j o) w with⟨h,w',n,d,_⟩|⟨w',new,n,y,x,z,⟨a,d,m,_⟩|⟨v,d,m⟩|⟨g,_,_,_,d⟩⟩
  .left;rw[d];exact⟨_,_,_,rfl⟩
  .cases l with
   |nil=>rw[i.2]at hr;cases hr
   |cons c l=>
    right
    refine⟨c.finish a,l,w',seen (Z6 P fs) fr.fn n++ #[],seen P fr.fn new++ #[],?_,?_,i.2.put (i.2.fo.finish a) (Ug _ _),y,x,Ts z⟩
    .simp only[d,doReturn,e.kind,YK];rfl
    .simp only[m,doReturn,e.kind,YK];rfl
  .left;rw[d];exact⟨_,_,_,rfl⟩
  .left;rw[d];exact⟨_,_,_,rfl⟩
def gb(id:Nat):∀{k a:List Item},(∀i∈k,itW i)->exitTo id k=U a->∀i∈a,itW i:=by
 intro k
 induction k with
 |nil=>intro a _ h;simp[exitTo]at h
 |cons i k d=>
  intro a e h;have c:∀i∈k,itW i:=λi hi=>e i (YW _ hi)
  cases i with
  |inBlock j=>
   simp only[exitTo]at h;split at h
   .cases h;exact c
   .exact d c h
  |_=>exact d c h
def mU(l:Nat):∀{c r:Code},codeW c=J->findLabel c l=U r->codeW r=J:=by
 intro c
 induction c with
 |seq a b e g=>
  intro r d h;simp only[codeW,YG]at d;simp only[findLabel]at h;split at h
  .rename_i x hx;cases h;simp only[codeW,YG];exact⟨e d.1 hx,d.2⟩
  .exact g d.2 h
 |label l'=>
  intro r _ h;simp only[findLabel]at h;split at h
  .cases h;rfl
  .cases h
 |_=>intro r _ h;simp[findLabel]at h
def fE(l:Nat):∀{k c:List Item},(∀i∈k,itW i)->gotoIn l k=U c->∀i∈c,itW i:=by
 intro k
 induction k with
 |nil=>intro c _ h;simp[gotoIn]at h
 |cons i k g=>
  intro c d h;have e:∀i∈k,itW i:=λi hi=>d i (YW _ hi)
  cases i with
  |inScope a=>
   have j:codeW a=J:=d _ YY;simp only[gotoIn]at h;split at h
   .rename_i r hr;cases h;intro i hi;rcases XG.1 hi with rfl|hi
    .exact mU l j hr
    .exact d i hi
   .exact g e h
  |_=>exact g e h
def mm(O:SO fr l)(hw:PW w):S5 fr l bot bot' w (stepG.exec (Z6 P fs) J J fr (l++bot) NB (clean Wob w)) (stepG.exec P J J fr (l++bot') NB w):=by
 have K:=O.fo;have z:∀(j:Option Code),(∀c,j=U c->codeW c=J)->∀x y,x=WQ (Z6 P fs) fr (l++bot) j (clean Wob w)->y=WQ P fr (l++bot') j w->S5 fr l bot bot' w x y:=λj hj x y e1 e2=>by rw[e1,e2];exact oP O j hj
 have to:∀(k:List Item),(∀i∈k,itW i)->S5 fr l bot bot' w (.go (G {fr with todo:=k} (l++bot)) (clean Wob w) #[]) (.go (G {fr with todo:=k} (l++bot')) w #[]):=λk M=>GT O (K.to M) rfl
 have I7:=K.todo;obtain⟨Y,H,V,n,L,T,ro⟩:=fr;dsimp only at I7 to;cases V with
 |nil=>exact z NB (λ_ h=>by cases h) _ _ rfl rfl
 |cons i k=>
  have M:∀i∈k,itW i:=λi hi=>I7 i (YW _ hi)
  have m:=I7 i YY
  have c1:∀{j:Item},itW j->∀i∈j::k,itW i:=λhj i hi=>by
   rcases XG.1 hi with rfl|hi
   .exact hj
   .exact M i hi
  have c2:∀{j j':Item},itW j->itW j'->∀i∈j::j'::k,itW i:=λhj a0 i hi=>by
   rcases XG.1 hi with rfl|hi
   .exact hj
   .exact c1 a0 i hi
  cases i with
  |code c=>
   have m:codeW c=J:=m;cases c with
   |ret=>exact z (U .ret) (λ_ h=>by cases h;rfl) _ _ rfl rfl
   |skip=>exact to k M
   |label _=>exact to k M
   |seq a b=>
    simp only[codeW,YG]at m;exact to _ (c2 m.1 m.2)
   |cond c a b=>
    simp only[codeW,YG]at m;unfold stepG.exec;dsimp only;generalize Frame.eval _ c=v;cases v with
    |bool t=>
     cases t with|true=>exact to _ (c1 (j:= .code a) m.1)|false=>exact to _ (c1 (j:= .code b) m.2)
    |_=>exact .inl ⟨_,_,_,rfl⟩
   |block id c=>exact to _ (c2 (j:= .code c) (j':= .inBlock id) m trivial)
   |loop c=>exact to _ (c2 (j:= .code c) (j':= .inLoop c) m m)
   |scope c=>exact to _ (c2 (j:= .code c) (j':= .inScope c) m m)
   |exit id=>
    cases F:exitTo id k with
    |none=>exact z (U (.exit id)) (λ_ h=>by cases h;rfl) _ _ (by simp only[stepG.exec,F,Option.elim];rfl) (by simp only[stepG.exec,F,Option.elim];rfl)
    |some k'=>
     have:=to k' (gb id M F);simp only[stepG.exec,F,Option.elim];exact this
   |goto id=>
    cases F:gotoIn id k with
    |none=>exact z (U (.goto id)) (λ_ h=>by cases h;rfl) _ _ (by simp only[stepG.exec,F,Option.elim];rfl) (by simp only[stepG.exec,F,Option.elim];rfl)
    |some k'=>
     have:=to k' (fE id M F);simp only[stepG.exec,F,Option.elim];exact this
   |refuse s=>exact .inl ⟨_,_,_,rfl⟩
   |region id C dr=>
    have m:C.toList.all (opW ·.op)=J:=m;cases dr with
    |false=>exact to _ (c1 (j:= .inRegion C _) m)
    |true=>
     refine .inr ⟨⟨Y,H,.inRegion C (Region.schedule (P.follows .mixedOrders) C (w.tape w.drawn (.order Y id)))::k,n,L,T,ro⟩,l,{w with drawn:=w.drawn+1},_,#[],rfl,rfl,O.put ⟨K.wf,c1 m,K.defers,K.kind⟩ rfl,⟨λ_ _ h=> .inl h,λ_ _ _ h=>h⟩,XA _,λe F=>by simp at F⟩
   |rangeFunc f ps a b=>
    simp only[codeW,YG]at m;unfold stepG.exec;dsimp only;rcases two (qi (t:=H) (ps:=ps) (ro:=ro) K.wf m.1 m.2) w with⟨h,w',es,E,hd⟩|⟨w',new,es,h1,h2,h3,⟨⟨r,mk⟩,E,hy,ha⟩|⟨v,E,hy⟩|⟨g,pc,pe,hg,E⟩⟩
    .left;simp only[E];exact⟨_,_,_,rfl⟩
    .simp only[E,hy]
     have C6:SO ⟨Y,H,.inRangeFunc r::k,mk++n,L,T,ro⟩ l:=O.put ⟨K.wf,c1 (j:= .inRangeFunc r) trivial,λd hd=>by
      rcases VI.1 hd with hd|hd
      .exact ha d hd
      .exact K.defers d hd,K.kind⟩ rfl
     refine gM h1 h2 (λe F=>h3 e (Ql P Y new e F)) (JY C6 (hw.jn h1) (dv _ _))
    .left;simp only[E];exact⟨_,_,_,rfl⟩
    .left;simp only[E];exact⟨_,_,_,rfl⟩
  |inBlock _=>exact to k M
  |inScope _=>exact to k M
  |inLoop c=>exact to _ (c2 (j:= .code c) (j':= .inLoop c) m m)
  |inRangeFunc _=>exact .inl ⟨_,_,_,rfl⟩
  |beginRound=>
   unfold stepG.exec;dsimp only;cases ro with|none=>exact JY O hw (X:=do (NB:Option Nat).elim (stuck "beginRound: no round") Instr.beginRound;pure .skip) (.dead (h:= .stuck _) trivial)|some r=>exact JY O hw (X:=do (U r).elim (stuck "beginRound: no round") Instr.beginRound;pure .skip) ((kH r).bind λ_ _=> .pure trivial)
  |endRangeFunc r=>
   unfold stepG.exec;dsimp only;rcases two (pU r) w with⟨h,w',es,E,hd⟩|⟨w',new,es,h1,h2,h3,⟨j,E,hy,ha⟩|⟨v,E,hy⟩|⟨g,pc,pe,hg,E⟩⟩
   .left;simp only[E];cases h<;>first|exact⟨_,_,_,rfl⟩|exact hd.elim
   .right
    simp only[E,hy];refine⟨⟨Y,H,(j.map Item.code).toList++k,n,L,T,ro⟩,l,w',_,seen P Y new++ #[],rfl,rfl,O.put ⟨K.wf,λi hi=> ?_,K.defers,K.kind⟩ rfl,h1,h2,Ts h3⟩;rcases VI.1 hi with hi|hi
    .cases j with
     |none=>simp at hi
     |some c=>simp at hi;subst hi;exact ha c rfl
    .exact M i hi
   .right
    simp only[E,hy];exact⟨_,l,w',_,seen P Y new++ #[],rfl,rfl,O.put (K.raise _) (GH _ _),h1,h2,Ts h3⟩
   .left;simp only[E];exact⟨_,_,_,rfl⟩
  |inRegion C td=>
   have m:C.toList.all (opW ·.op)=J:=m;cases td with
   |nil=>exact to k M
   |cons i td=>
    unfold stepG.exec;dsimp only;split
    .unfold stepG.oper;cases ho:C[i]? with
     |none=>left;simp only[Frame.oper?,ho];exact⟨_,_,_,rfl⟩
     |some o=>
      have A4:opW o.op=J:=YL.1 m o (RD.2 (Array.mem_of_getElem? ho));simp only[Frame.oper?,ho];split
      .rename_i F;rw[F]at A4;cases A4
      .exact JY O hw (rz _ o A4)
    .exact GT O (K.finish _) (Ug _ _)
  |_=>exact m.elim
def ix(m:SO fr l)(hm:fr.mode≠.run)(Y:l=[]->fr.defers≠[]):S5 fr l bot bot' w (unwind (Z6 P fs) J fr (l++bot) NB (clean Wob w)) (unwind P J fr (l++bot') NB w):=by
 have i:=m.fo;unfold unwind;cases n:fr.defers with
 |cons d V=>
  obtain⟨r,L⟩:=i.defers d (by rw[n];exact YY);obtain⟨_,_⟩:=d;dsimp only at L;subst L;dsimp only;rcases two (fA r) w with⟨h,w',y,a,n⟩|⟨w',new,y,C,z,E,⟨j,a,o,M⟩|⟨v,a,o⟩|⟨g,pc,T,O,a⟩⟩
  .left;simp only[a];exact⟨_,_,_,rfl⟩
  .right
   simp only[a,o];subst M;exact⟨{fr with defers:=[]++V},l,w',_,seen P fr.fn new++ #[],rfl,rfl,m.put ⟨i.wf,i.todo,λd F=>i.defers d (by rw[n];exact YW _ (by simpa using F)),i.kind⟩ rfl,C,z,Ts E⟩
  .left;simp only[a];exact⟨_,_,_,rfl⟩
  .left;simp only[a];exact⟨_,_,_,rfl⟩
 |nil=>
  dsimp only;obtain⟨K,c,e1,e2,e3,e4,_⟩:=i.wf;have x:(Z6 P fs).funcs[fr.fn]? =U K:=e1;cases l with
  |nil=>exact absurd n (Y rfl)
  |cons c l=>
   cases A8:fr.mode with
   |run=>exact absurd A8 hm
   |panicking H=>
    dsimp only;have k1:fr.catches (Z6 P fs)=ND:=(by simp[Frame.catches,x]);have k2:fr.catches P=ND:=(by simp[Frame.catches,e2]);simp only[k1,k2,YR,VF,YK];exact .inr ⟨c.raise H,l,w,_,#[],rfl,rfl,m.2.put (m.2.fo.raise H) (GH _ _),Jn.refl _ _,XA _,λe he=>by simp at he⟩
   |returning=>
    simp only[x,e2];rcases two (S.h (X:=results K fr.tmps)) w with⟨h,w',y,a,n⟩|⟨w',new,y,C,z,E,⟨j,a,o,M⟩|⟨v,a,o⟩|⟨g,pc,T,O,a⟩⟩
    .left;simp only[a];cases h<;>exact⟨_,_,_,rfl⟩
    .right
     refine⟨c.finish j,l,w',seen (Z6 P fs) fr.fn y++ #[],seen P fr.fn new++ #[],?_,?_,m.2.put (m.2.fo.finish j) (Ug _ _),C,z,Ts E⟩
     .simp only[a,doReturn,i.kind,YK];rfl
     .simp only[o,doReturn,i.kind,YK];rfl
    .left;simp only[a];exact⟨_,_,_,rfl⟩
    .left;simp only[a];exact⟨_,_,_,rfl⟩
def jJ(a:SO fr l)(d:PW w):S5 fr l bot bot' w (stepG (Z6 P fs) J (G fr (l++bot)) (clean Wob w)) (stepG P J (G fr (l++bot')) w)\/(l=[]/\fr.mode≠.run/\fr.defers=[]):=by
 by_cases h:l=[]/\fr.mode≠.run/\fr.defers=[]
 .exact .inr h
 .left
  unfold stepG G;dsimp only;cases hm:fr.mode with|run=>exact mm a d|_=>exact ix a (by rw[hm];simp) (λe c=>h ⟨e,by rw[hm];simp,c⟩)
end
end
end Go.Ns
