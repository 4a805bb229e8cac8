import Derived.Test.YthahddndgbpooaaGreatDoorNkA
import Derived.Test.YthahddndgbpooaaGreatDoorNk29
import Derived.Conc.Own
import Derived.Lib.Atoi
import Derived.Lib.ItoaNum
import Derived.Shelf.Slices.Turned
import Derived.Shelf.Small.Wraps
import Derived.Shelf.Strconv.Atoi
import Derived.Shelf.Strconv.Itoa3
import Derived.Shelf.Strings.Cut
import Derived.Shelf.Strings.OnBuilder
import Derived.Shelf.Strings.Prefix
import Derived.Shelf.Strings.SlTrimAscii
import Derived.Shelf.Strings.Split
set_option linter.all false
set_option maxRecDepth 100000
set_option maxHeartbeats 4000000
open Go
variable {es es':Array Event}{t:Array Value}{b:Code}{fr fr':Frame}{fn:Func}{f:FuncId}{bot' cs l':List Frame}{B i n:Nat}{ro:Option Nat}{p:Program}{s:String}{w w':World}
namespace Go.Ns
section
open Go.Conc
open Go.Nk (Ban Z6 Z6k Z3Y Z0J Z0B Z0S Z3k Z0P)
variable [Ban]
def biW:Builtin->Bool
 | .append| .cap| .copy| .len| .max| .min| .panic| .unsafeAdd| .unsafeSliceData| .unsafeString=>true
 |_=>false
def opW:Op->Bool
 | .move _| .assign _| .pick .. | .alloc _| .box .. | .build .. | .buildSlice .. | .load .. | .store .. | .nilCheck _| .binOp .. | .unOp .. | .convert .. | .makeInterface .. | .makeFunc .. | .makeMap .. | .makeSlice .. | .slice .. | .fieldAddr .. | .field .. | .indexAddr .. | .index .. | .lookup .. | .mapUpdate .. | .typeAssert .. | .extract .. | .panic _| .range .. | .next .. =>true
 | .call c=>match c.callee with| .builtin b=>biW b|_=>true
 |_=>false
def codeW:Code->Bool
 | .skip| .exit _| .goto _| .label _| .ret| .refuse _=>true
 | .region _ ops _=>ops.toList.all (opW ·.op)
 | .seq a b| .cond _ a b| .rangeFunc _ _ a b=>codeW a&&codeW b
 | .block _ c| .loop c| .scope c=>codeW c
class Pf where
 P:Program
 fs:Array Func
variable [Pf]
open Pf
def WF(f:FuncId):Prop:=∃fn c,fs[f]? =some fn/\P.funcs[f]? =some fn/\fn.body=some c/\codeW c=true/\(fn.name== "runtime.NumGoroutine")=false
def Wob:Obj->Prop
 | .pending .. =>False
 | .loop l=>WF l.fn/\codeW l.assign=true/\codeW l.body=true/\∀c,l.pending=some c->codeW c=true
 | .deferred (some l)=>l=[]
 | .coro _=>False
 |_=>True
instance :Cx:=⟨P,fs,Wob,⟨λ_ _ _=>trivial,λ_ _=>trivial,λ_ h=>h,λ_ _ h=>h⟩,λ_ _=>trivial,λ_ _=>trivial,λ_ _=>trivial,λ_ _=>trivial,λ_ _ _ _=>trivial⟩
def XF(f:FuncId):Prop:=∃fn e,fs[f]? =some fn/\P.funcs[f]? =some fn/\fn.body=none/\(fn.name== "runtime.NumGoroutine")=false/\Extern.findNext fn=none/\Extern.find fn=some e/\∀a,S (e a)
class FsW:Prop where
 h:∀f fn',fs[f]? =some fn'->Z6k fn'=true\/WF f\/XF f
 ahead:(Z6 P fs).follows .staticDataAhead=true
variable [FsW]
def NOk:Next->Prop
 | .value _| .skip=>True
 | .enter f _=>WF f
 | .round _ f _ a b=>WF f/\codeW a=true/\codeW b=true
 |_=>False
abbrev N(X:Sem Next):Prop:=SE (Z6 P fs) P Wob NOk X X
theorem n_v{X:Sem Value}[S X]:N (do Pure.pure (Next.value (<-X))):=S.to λ_=> .pure trivial
theorem n_u{X:Sem Unit}[S X]:N (do X;Pure.pure Next.skip):=S.to λ_=> .pure trivial
theorem ZnY:N (stuck s):= .dead (h:= .stuck s) trivial
theorem n_nil:N (runtimePanic .nilDeref):=by
 unfold runtimePanic;exact .program .panic
theorem Zo9(f:FuncId)(a:Array Value):N (callFunc f a):=by
 refine .program ?_;show SE _ _ _ _ (match fs[f]? with|none=>_|some fn=>_) (match P.funcs[f]? with|none=>_|some fn=>_);cases hf:fs[f]? with
 |none=>exact .dead (h:= .stuck _) trivial
 |some fn'=>
  rcases FsW.h f fn' hf with h|⟨fn,c,h1,h2,h3,h4,h5⟩|⟨fn,e,h1,h2,h3,h4,h5,h6,h7⟩
  ·simp only[Z6k,YG,XR,QD] at h;obtain⟨⟨⟨⟨Dv,hn⟩,he⟩,Em⟩,hi⟩:=h;dsimp only;rw[XA (by simp[hn]),YZ (by simp[Dv])];simp only[he,Em,hi,YR,XZ];exact .markDead (h:= .unsupported _) trivial
  ·rw[hf] at h1;cases h1;rw[h2];dsimp only;rw[XA (by simp[h5]),XA (by simp[h3])];exact .pure ⟨_,c,hf,h2,h3,h4,h5⟩
  ·rw[hf] at h1;cases h1;rw[h2];dsimp only;rw[XA (by simp[h4]),YZ (by simp[h3])];simp only[h5,h6];exact .mark trivial ((h7 a).h.bind λ_ _=> .pure trivial)
theorem ZnO(v:Value)(s:String)(a:Array Value):N (callMethod v s a):=by
 unfold callMethod;cases v with
 |iface t v=>exact .program (S.to λ_=>Zo9 _ _)
 |nilIface=>exact n_nil
 |_=>exact ZnY
instance (l):S (Instr.getLoop l):= .of (Instr.getLoop.eq_def l)
theorem ZnP(l:Nat):SE (Z6 P fs) P Wob (λr=>Wob (.loop r)) (Instr.getLoop l) (Instr.getLoop l):=by
 unfold Instr.getLoop;refine .getObj (λo ho=> ?_) (λ_ _=> .dead (h:= .stuck _) trivial) λo _=> .dead (h:= .stuck _) trivial
 cases o with
 |loop r=>exact .pure ho
 |_=>exact .dead (h:= .stuck _) trivial
theorem ZqV(l:Nat)(a:Array Value):N (Instr.yield l a):=by
 unfold Instr.yield;refine(ZnP l).bind λr hr=> ?_
 dsimp only;split
 ·exact ZnY
 ·exact .pure ⟨hr.1,hr.2.1,hr.2.2.1⟩
theorem Zpr(v:Value)(a:Array Value):N (do let d<-Deferred.ofValue v a;invoke d.target d.args):=by
 cases v with
 |func fn x c=>
  show N (invoke (.fn fn c) (x++a));cases fn with
  |func f=>exact Zo9 _ _
  |method s=>
   unfold invoke;dsimp only;split<;>first|exact ZnO _ _ _|exact ZnY
  |methodOf t s=>
   unfold invoke;dsimp only;split
   ·refine S.to λ_=> ?_
    split<;>exact ZnO _ _ _
   ·exact ZnY
  |via t p f b=>
   unfold invoke;dsimp only;split
   ·exact S.to λ_=>Zo9 _ _
   ·exact ZnY
  |yield l=>exact ZqV _ _
 |nilFunc=>exact n_nil
 |_=>exact ZnY
theorem ZqD(e:Operand->Value)(o:Oper)(ho:opW o.op=true):N (execOp e o):=by
 obtain⟨dst,op,type,pos,after,guard⟩:=o;cases op with
 |move x=>exact .pure trivial
 |assign x=>exact .pure trivial
 |pick c a b=>exact S.to λ_=> .pure trivial
 |nilCheck x=>
  simp only[execOp];split
  ·exact n_nil
  ·exact n_nil
  ·exact n_nil
  ·split
   ·exact n_nil
   ·refine .program ?_;show SE _ _ _ _ (nilAhead (P.types.size+Made.depth) _ _ _>>=_) (nilAhead (P.types.size+Made.depth) _ _ _>>=_);refine S.to λ_=> ?_
    split
    ·exact .dead (h:= .unsupported _) trivial
    ·exact .pure trivial
   ·exact .pure trivial
  ·exact .pure trivial
 |binOp o t x y u=>exact n_v (X:=do eqGuard o t x y (e x) (e y);binOp o t (e x) (e y))
 |makeFunc f a c=>exact .pure trivial
 |store t a x=>exact n_u (X:=Instr.storeAt t (e a) (e x))
 |mapUpdate t m k x=>exact n_u (X:=Instr.mapUpdate t (e m) (e k) (e x))
 |call c=>
  obtain⟨callee,args,tys⟩:=c;cases callee with
  |builtin b=>
   cases b<;>first|(cases ho;done)|exact n_v
  |invoke r s=>
   show N (invoke (.fn (.method s) #[]) (#[e r]++args.map e));unfold invoke;dsimp only;split<;>first|exact ZnO _ _ _|exact ZnY
  |value f=>exact Zpr _ _
 |_=>first|(cases ho;done)|exact n_v
end
section
open Go.Conc
open Go.Nk (Ban Z6 Z3Y Z0J Z0B Z0S Z3k Z0P Z2m)
variable [Ban]
section
variable (P:Program)(fs:Array Func)
theorem withF_cellHolding:∀d,cellHolding (Z6 P fs) d=cellHolding P d
 |0=>rfl
 |d+1=>by funext t b;simp only[cellHolding,withF_cellHolding d,Z0J,Z0B,Z0S];rfl
theorem withF_plainCell:∀d,plainCell (Z6 P fs) d=plainCell P d
 |0=>rfl
 |d+1=>by funext t b;simp only[plainCell,withF_plainCell d,Z0J,Z0B];rfl
theorem withF_tight:∀d,tight (Z6 P fs) d=tight P d
 |0=>rfl
 |d+1=>by funext t;simp only[tight,withF_tight d,Z0J,Z0S]
theorem ZnQ(c:Array Value)(e:TypeId):∀f,seenCells (Z6 P fs) c e f=seenCells P c e f
 |0=>rfl
 |f+1=>by funext x s;simp only[seenCells,ZnQ c e f,withF_cellHolding,Z0B,Z0S,Z3k]
theorem Zos(w:World)(a:Addr)(u:TypeId)(k:Addr)(m:Bool):w.seen (Z6 P fs) a u k m=w.seen P a u k m:=by
 unfold World.seen;simp only[withF_plainCell,Z0P,ZnQ,Z0B,Z0S,Z3k];rfl
theorem far:Far (Z6 P fs) P:=by
 constructor
 ·intro w a m;unfold World.farLoad World.viewLoad;simp only[Zos]
 ·intro w a v m;unfold World.farStore World.viewStore;simp only[Zos,withF_tight,Z3k]
end
variable [Pf] [FsW]
open Pf
section
variable {α:Type}{A:α->Prop}{X:Sem α}
def Two(A:α->Prop)(X:Sem α)(w:World):Prop:=
 (∃h w' es,X.runT (Z6 P fs) (clean Wob w) #[]=(.halt h w',es)/\Dead h)\/∃w' new es,Jn Wob w w'/\w.heap.size<=w'.heap.size/\(∀e∈new,EvW w'.heap.size e)/\
   ((∃a,X.runT (Z6 P fs) (clean Wob w) #[]=(.ok a (clean Wob w'),es)/\X.runT P w #[]=(.ok a w',new)/\A a)\/(∃v,X.runT (Z6 P fs) (clean Wob w) #[]=(.halt (.panic v) (clean Wob w'),es)/\X.runT P w #[]=(.halt (.panic v) w',new))\/
     ∃g c e,w'.heap[g]? =some (.pending c e)/\X.runT (Z6 P fs) (clean Wob w) #[]=(.halt (.unsupported (.initOrder g)) (clean Wob w'),es))
theorem two(h:SE (Z6 P fs) P Wob A X X)(w:World):Two A X w:=by
 have r:Out Wob A w #[] (X.run (Z6 P fs) (clean Wob w)) (X.runT P w #[]):=h.run Cx.ok (far P fs) w #[];have f:=Sem.runT_fst (Z6 P fs) X (clean Wob w) #[];unfold Two;rcases hx:X.runT (Z6 P fs) (clean Wob w) #[] with⟨x,es⟩;rw[hx] at f;rw[<-f] at r;rcases r with⟨h,w',rfl,hd⟩|⟨w',new,h1,h2,h3,⟨a,rfl,hy,ha⟩|⟨v,rfl,hy⟩|⟨g,c,e,hg,rfl⟩⟩
 ·exact .inl ⟨h,w',es,rfl,hd⟩
 ·exact .inr ⟨w',new,es,h1,h2,h3,.inl ⟨a,rfl,by simpa using hy,ha⟩⟩
 ·exact .inr ⟨w',new,es,h1,h2,h3,.inr (.inl ⟨v,rfl,by simpa using hy⟩)⟩
 ·exact .inr ⟨w',new,es,h1,h2,h3,.inr (.inr ⟨g,c,e,hg,rfl⟩)⟩
end
def DOk(ds:List Deferred):Prop:=∀d∈ds,∃r,d.target= .collected r
theorem Zpf{ps:Array Tmp}{a:Code}(hf:WF f)(ha:codeW a=true)(hb:codeW b=true):
 SE (Z6 P fs) P Wob (λx:Nat×List Deferred=>DOk x.2) (Instr.enterLoop f t ps a b ro) (Instr.enterLoop f t ps a b ro):=by
 have jp:∀(d:Nat)(mk:List Deferred),DOk mk->SE (Z6 P fs) P Wob (λx:Nat×List Deferred=>DOk x.2)
  (do pure (<-newObj (.loop {state:= .ready,pending:=none,fn:=f,tmps:=t,params:=ps,assign:=a,body:=b,defers:=d}),mk))
  (do pure (<-newObj (.loop {state:= .ready,pending:=none,fn:=f,tmps:=t,params:=ps,assign:=a,body:=b,defers:=d}),mk)):=
  λd mk hm=> .new ⟨hf,ha,hb,λc h=>by cases h⟩ λr=> .pure hm
 unfold Instr.enterLoop;cases ro with
 |none=>exact .new rfl λr=>jp _ _ λd hd=>by simp at hd;subst hd;exact⟨_,rfl⟩
 |some l=>exact(ZnP l).bind λr _=>jp _ _ λd hd=>by simp at hd
theorem ZoS(l:Nat):SE (Z6 P fs) P Wob (λ_=>True) (Instr.beginRound l) (Instr.beginRound l):=by
 unfold Instr.beginRound;refine(ZnP l).bind λr hr=> .setObj hr ?_
 cases r.state<;>first|exact .pure trivial|exact S.h (X:=(runtimePanic (.error _):Sem Unit))
theorem ZpD(l:Nat)(j:Option Code)(hj:∀c,j=some c->codeW c=true):SE (Z6 P fs) P Wob (λ_=>True) (Instr.endRound l j) (Instr.endRound l j):=by
 unfold Instr.endRound;exact(ZnP l).bind λr hr=> .setObj ⟨hr.1,hr.2.1,hr.2.2.1,hj⟩ (.pure trivial)
theorem Zq4(l:Nat):SE (Z6 P fs) P Wob (λx=>∀c,x=some c->codeW c=true) (Instr.endLoop l) (Instr.endLoop l):=by
 unfold Instr.endLoop;refine(ZnP l).bind λr hr=> ?_
 have k:SE (Z6 P fs) P Wob (λx=>∀c,x=some c->codeW c=true) (do setObj l (.loop {r with state:= .exhausted});pure r.pending) (do setObj l (.loop {r with state:= .exhausted});pure r.pending):= .setObj hr (.pure hr.2.2.2);dsimp only;split
 ·exact S.to λ_=>k
 ·exact k
theorem Zon(b:Nat):SE (Z6 P fs) P Wob (λl=>l=[]) (Instr.takeDeferred b) (Instr.takeDeferred b):=by
 unfold Instr.takeDeferred;refine .getObj (λo ho=> ?_) (λ_ _=> .dead (h:= .stuck _) trivial) λo _=> .dead (h:= .stuck _) trivial
 cases o with
 |deferred d=>
  cases d with
  |none=>exact .dead (h:= .stuck _) trivial
  |some l=>exact .setObj trivial (.pure ho)
 |_=>exact .dead (h:= .stuck _) trivial
instance (fn t):S (results fn t):= .of (results.eq_def fn t)
def itW:Item->Prop
 | .code c| .inLoop c| .inScope c=>codeW c=true
 | .inRegion ops _=>ops.toList.all (opW ·.op)=true
 | .inBlock _| .inRangeFunc _| .endRangeFunc _| .beginRound=>True
 |_=>False
structure FO(fr:Frame):Prop where
 wf:WF fr.fn
 todo:∀i∈fr.todo,itW i
 defers:DOk fr.defers
 kind:fr.kind= .normal
def SO:Frame->List Frame->Prop
 |fr,[]=>FO fr/\fr.roundOf=none
 |fr,c::cs=>FO fr/\SO c cs
theorem SO.fo(h:SO fr cs):FO fr:=by cases cs<;>exact h.1
theorem SO.put(h:SO fr cs)(hf:FO fr')(hr:fr'.roundOf=fr.roundOf):SO fr' cs:=by
 cases cs with
 |nil=>exact⟨hf,hr.trans h.2⟩
 |cons c cs=>exact⟨hf,h.2⟩
theorem FO.finish{fr:Frame}(h:FO fr)(v:Value):FO (fr.finish v):=by
 obtain⟨fn,tmps,todo,defers,mode,kind,ro⟩:=fr;obtain⟨h1,h2,h3,h4⟩:=h;cases todo with
 |nil=>exact⟨h1,h2,h3,h4⟩
 |cons i k=>
  have hk:∀i∈k,itW i:=λi hi=>h2 i (YW _ hi)
  have h0:=h2 i YY
  have key:∀(j:Item)(t:Array Value),itW j->FO ⟨fn,t,j::k,defers,mode,kind,ro⟩:=λj t hj=>⟨h1,λi hi=>by
   rcases XE.1 hi with rfl|hi
   ·exact hj
   ·exact hk i hi,h3,h4⟩
  cases i with
  |inRegion ops l=>cases l with
   |nil=>exact key _ _ h0
   |cons i l=>exact key _ _ h0
  |inRangeFunc l=>exact key _ _ trivial
  |beginRound=>exact⟨h1,hk,h3,h4⟩
  |call=>exact h0.elim
  |extern=>exact h0.elim
  |_=>exact key _ _ h0
theorem Z0w(fr:Frame)(v:Value):(fr.finish v).roundOf=fr.roundOf:=by
 unfold Frame.finish;split<;>rfl
theorem FO.raise{fr:Frame}(h:FO fr)(c:List PanicEntry):FO (fr.raise c):=by
 unfold Frame.raise;split<;>exact⟨h.wf,h.todo,h.defers,h.kind⟩
theorem ZnZ(fr:Frame)(c:List PanicEntry):(fr.raise c).roundOf=fr.roundOf:=by
 unfold Frame.raise;split<;>rfl
theorem FO.enter{f:FuncId}(hf:WF f)(a:Array Value):FO (Frame.enter P f a .normal):=by
 obtain⟨fn,c,h1,h2,h3,h4,h5⟩:=hf;refine⟨⟨fn,c,h1,h2,h3,h4,h5⟩,λi hi=> ?_,λd hd=>by simp[Frame.enter] at hd,rfl⟩;simp only[Frame.enter,h2,SQ,h3,VX,XO] at hi;subst hi;exact h4
theorem ZpE(hf:WF f)(a:Array Value)(k:CallKind):Frame.enter (Z6 P fs) f a k=Frame.enter P f a k:=by
 obtain⟨fn,c,h1,h2,h3,h4,h5⟩:=hf;have e1:(Z6 P fs).funcs[f]? =some fn:=h1;simp only[Frame.enter,e1,h2]
theorem FO.round{l:Nat}{f:FuncId}{t:Array Value}{a b:Code}(hf:WF f)(ha:codeW a=true)(hb:codeW b=true):FO (Frame.round l f t a b .normal):=
 ⟨hf,λi hi=>by
   simp only[Frame.round,XE,XL,VO] at hi;rcases hi with rfl|rfl|rfl
   ·exact ha
   ·trivial
   ·exact hb,λd hd=>by simp[Frame.round] at hd,rfl⟩
end
section
open Go.Conc
open Go.Nk (Ban Z6 Z2m)
variable [Ban] [Pf] [FsW]
open Pf
section
variable {l bot:List Frame}
def Zqz(fr:Frame)(l bot bot':List Frame)(w:World)(x y:GStep):Prop:=
 (∃o w1 es,x= .ended o w1 es)\/
 (∃fr1 l1 w1 es1 es2,x= .go (G fr1 (l1++bot)) (clean Wob w1) es1/\y= .go (G fr1 (l1++bot')) w1 es2/\SO fr1 l1/\Jn Wob w w1/\w.heap.size<=w1.heap.size/\∀e∈es2,EvW w1.heap.size e)
theorem Zoa(hs:SO fr l){fr1:Frame}(hf:FO fr1)(hr:fr1.roundOf=fr.roundOf){es:Array Event}:Zqz fr l bot bot' w (.go (G fr1 (l++bot)) (clean Wob w) es) (.go (G fr1 (l++bot')) w #[]):=
 .inr ⟨fr1,l,w,es,#[],rfl,rfl,hs.put hf hr,Jn.refl _ _,XB _,λe he=>by simp at he⟩
theorem FO.to(h:FO fr){k:List Item}(hk:∀i∈k,itW i):FO {fr with todo:=k}:=⟨h.wf,hk,h.defers,h.kind⟩
theorem ZnW(h:∀e∈es,EvW B e):∀e∈seen p f es++ #[],EvW B e:=λe he=>h e (Z2m p f es e (by simpa using he))
def PW(w:World):Prop:=∀(b:Nat) c e,w.heap[b]? =some (.pending c e)->(Z6 P fs).stepOf b=none
theorem PW.jn(h:PW w)(j:Jn Wob w w'):PW w':=λb c e hb=>h b c e (j.pend b c e hb)
theorem ZnS(hs:SO fr l)(hw:PW w){X:Sem Next}(hX:N X):Zqz fr l bot bot' w (stepG.apply (Z6 P fs) true fr (l++bot) none X (clean Wob w)) (stepG.apply P true fr (l++bot') none X w):=by
 have hf:=hs.fo;have Hv:(fr.kind==CallKind.early)=false:=by rw[hf.kind];rfl
 rcases two hX w with⟨h,w',es,hx,hd⟩|⟨w',new,es,h1,h2,h3,⟨a,hx,hy,ha⟩|⟨v,hx,hy⟩|⟨g,pc,pe,hg,hx⟩⟩
 ·left
  cases h with
  |stuck s=>exact⟨_,_,_,by simp only[stepG.apply,XQ,hx];rfl⟩
  |unsupported u=>
   cases u with
   |initOrder _=>exact hd.elim
   |_=>exact⟨_,_,_,by simp only[stepG.apply,XQ,hx];rfl⟩
  |_=>exact hd.elim
 ·right
  cases a with
  |value v=>exact⟨fr.finish v,l,w',_,_,by simp only[stepG.apply,XQ,hx,Hv,YR,XZ];rfl,by simp only[stepG.apply,XQ,hy,Hv,YR,XZ];rfl,hs.put (hf.finish v) (Z0w _ _),h1,h2,ZnW h3⟩
  |skip=>exact⟨fr.finish undef,l,w',_,_,by simp only[stepG.apply,XQ,hx,Hv,YR,XZ];rfl,by simp only[stepG.apply,XQ,hy,Hv,YR,XZ];rfl,hs.put (hf.finish _) (Z0w _ _),h1,h2,ZnW h3⟩
  |enter f a=>
   refine⟨Frame.enter P f a .normal,fr::l,w',seen (Z6 P fs) fr.fn es++ #[],seen P fr.fn new++ #[],?_,?_,⟨FO.enter ha _,hs⟩,h1,h2,ZnW h3⟩
   all_goals
    simp only[stepG.apply,XQ,hx,hy,Hv,YR,XZ,ZpE ha];rcases hk:fr.todo with _|⟨i,k⟩
    ·rfl
    ·have:=hf.todo i (by rw[hk];exact YY);cases i<;>first|rfl|exact this.elim
  |round r f t a b=>exact⟨Frame.round r f t a b .normal,fr::l,w',_,_,by simp only[stepG.apply,XQ,hx,Hv,YR,XZ];rfl,by simp only[stepG.apply,XQ,hy,Hv,YR,XZ];rfl,⟨FO.round ha.1 ha.2.1 ha.2.2,hs⟩,h1,h2,ZnW h3⟩
  |_=>exact ha.elim
 ·right
  exact⟨fr.raise [{v,recovered:=false}],l,w',_,_,by simp only[stepG.apply,XQ,hx];rfl,by simp only[stepG.apply,XQ,hy];rfl,hs.put (hf.raise _) (ZnZ _ _),h1,h2,λe he=>by
   refine ZnW (p:=P) (f:=fr.fn) h3 e ?_;simpa[Hv] using he⟩
 ·left
  have h4:=hw g pc pe (h1.pend g pc pe hg);have h5:(Z6 P fs).follows .staticDataAhead=true:=FsW.ahead;exact⟨_,_,_,by simp only[stepG.apply,XQ,hx,early,h4,h5,RA,YR,XZ];rfl⟩
theorem ZpF{x y:GStep}(h1:Jn Wob w w')(h2:w.heap.size<=w'.heap.size)(h3:∀e∈es',EvW w'.heap.size e)(h:Zqz fr' l' bot bot' w' x y):Zqz fr l bot bot' w (GStep.after es x) (GStep.after es' y):=by
 rcases h with⟨o,w1,es1,rfl⟩|⟨fr1,l1,w1,es1,es2,rfl,rfl,h6,h7,h8,h9⟩
 ·exact .inl ⟨o,w1,_,rfl⟩
 ·refine .inr ⟨fr1,l1,w1,_,es'++es2,rfl,rfl,h6,h1.trans h7,XD h2 h8,λe he=> ?_⟩;rcases UL.1 he with he|he
  ·exact(h3 e he).mono h8
  ·exact h9 e he
def Z2n(p:Program)(fr:Frame)(cs:List Frame)(j:Option Code)(w:World):GStep:=
 match fr.roundOf with
 |none=>if j matches none|some .ret then .go (G {fr with mode:= .returning} cs) w else .ended (.stuck "exit, goto: no such block or label" (fr.pos p)) w
 |some l=>
  let (r,es):=(Instr.endRound l j).runT p w #[]
  GStep.after (seen p fr.fn es) <| match r with
  | .ok v w=>doReturn p true fr cs none v w
  | .halt _ w=> .ended (.stuck "range over a function: no such loop" (fr.pos p)) w
theorem ZpG(hs:SO fr l)(j:Option Code)(hj:∀c,j=some c->codeW c=true):Zqz fr l bot bot' w (Z2n (Z6 P fs) fr (l++bot) j (clean Wob w)) (Z2n P fr (l++bot') j w):=by
 have hf:=hs.fo;unfold Z2n;cases hr:fr.roundOf with
 |none=>
  dsimp only;clear hj;generalize (match j with|none=>true|some Code.ret=>true|_=>false)=t;cases t with
  |true=>
   simp only[XQ];exact Zoa hs (fr1:={fr with mode:= .returning,roundOf:=none}) ⟨hf.wf,hf.todo,hf.defers,hf.kind⟩ hr.symm
  |false=>exact .inl ⟨_,_,_,rfl⟩
 |some r=>
  dsimp only;rcases two (ZpD r j hj) w with⟨h,w',es,hx,hd⟩|⟨w',new,es,h1,h2,h3,⟨a,hx,hy,ha⟩|⟨v,hx,hy⟩|⟨g,pc,pe,hg,hx⟩⟩
  ·left;rw[hx];exact⟨_,_,_,rfl⟩
  ·cases l with
   |nil=>rw[hs.2] at hr;cases hr
   |cons c l=>
    right
    refine⟨c.finish a,l,w',seen (Z6 P fs) fr.fn es++ #[],seen P fr.fn new++ #[],?_,?_,hs.2.put (hs.2.fo.finish a) (Z0w _ _),h1,h2,ZnW h3⟩
    ·simp only[hx,doReturn,hf.kind,YK];rfl
    ·simp only[hy,doReturn,hf.kind,YK];rfl
  ·left;rw[hx];exact⟨_,_,_,rfl⟩
  ·left;rw[hx];exact⟨_,_,_,rfl⟩
theorem ZqW(id:Nat):∀{k k':List Item},(∀i∈k,itW i)->exitTo id k=some k'->∀i∈k',itW i:=by
 intro k
 induction k with
 |nil=>intro k' _ h;simp[exitTo] at h
 |cons i k ih=>
  intro k' hk h;have Az:∀i∈k,itW i:=λi hi=>hk i (YW _ hi)
  cases i with
  |inBlock j=>
   simp only[exitTo] at h;split at h
   ·cases h;exact Az
   ·exact ih Az h
  |_=>exact ih Az h
theorem ZqX(l:Nat):∀{c r:Code},codeW c=true->findLabel c l=some r->codeW r=true:=by
 intro c
 induction c with
 |seq a b iha ihb=>
  intro r hc h;simp only[codeW,YG] at hc;simp only[findLabel] at h;split at h
  ·rename_i x hx;cases h;simp only[codeW,YG];exact⟨iha hc.1 hx,hc.2⟩
  ·exact ihb hc.2 h
 |label l'=>
  intro r _ h;simp only[findLabel] at h;split at h
  ·cases h;rfl
  ·cases h
 |_=>intro r _ h;simp[findLabel] at h
theorem ZqY(l:Nat):∀{k k':List Item},(∀i∈k,itW i)->gotoIn l k=some k'->∀i∈k',itW i:=by
 intro k
 induction k with
 |nil=>intro k' _ h;simp[gotoIn] at h
 |cons i k ih=>
  intro k' hk h;have Az:∀i∈k,itW i:=λi hi=>hk i (YW _ hi)
  cases i with
  |inScope body=>
   have h0:codeW body=true:=hk _ YY;simp only[gotoIn] at h;split at h
   ·rename_i r hr;cases h;intro i hi;rcases XE.1 hi with rfl|hi
    ·exact ZqX l h0 hr
    ·exact hk i hi
   ·exact ih Az h
  |_=>exact ih Az h
theorem Zq5(hs:SO fr l)(hw:PW w):Zqz fr l bot bot' w (stepG.exec (Z6 P fs) true true fr (l++bot) none (clean Wob w)) (stepG.exec P true true fr (l++bot') none w):=by
 have hf:=hs.fo;have leave:∀(j:Option Code),(∀c,j=some c->codeW c=true)->∀x y,x=Z2n (Z6 P fs) fr (l++bot) j (clean Wob w)->y=Z2n P fr (l++bot') j w->Zqz fr l bot bot' w x y:=λj hj x y e1 e2=>by rw[e1,e2];exact ZpG hs j hj
 have to:∀(k:List Item),(∀i∈k,itW i)->Zqz fr l bot bot' w (.go (G {fr with todo:=k} (l++bot)) (clean Wob w) #[]) (.go (G {fr with todo:=k} (l++bot')) w #[]):=λk hk=>Zoa hs (hf.to hk) rfl
 have Hi:=hf.todo;obtain⟨fn,tmps,todo,defers,mode,kind,ro⟩:=fr;dsimp only at Hi to;cases todo with
 |nil=>exact leave none (λ_ h=>by cases h) _ _ rfl rfl
 |cons i k=>
  have hk:∀i∈k,itW i:=λi hi=>Hi i (YW _ hi)
  have h0:=Hi i YY
  have c1:∀{j:Item},itW j->∀i∈j::k,itW i:=λhj i hi=>by
   rcases XE.1 hi with rfl|hi
   ·exact hj
   ·exact hk i hi
  have c2:∀{j j':Item},itW j->itW j'->∀i∈j::j'::k,itW i:=λhj hj' i hi=>by
   rcases XE.1 hi with rfl|hi
   ·exact hj
   ·exact c1 hj' i hi
  cases i with
  |code c=>
   have h0:codeW c=true:=h0;cases c with
   |ret=>exact leave (some .ret) (λ_ h=>by cases h;rfl) _ _ rfl rfl
   |skip=>exact to k hk
   |label _=>exact to k hk
   |seq a b=>
    simp only[codeW,YG] at h0;exact to _ (c2 h0.1 h0.2)
   |cond c a b=>
    simp only[codeW,YG] at h0;unfold stepG.exec;dsimp only;generalize Frame.eval _ c=v;cases v with
    |bool t=>
     cases t with
     |true=>exact to _ (c1 (j:= .code a) h0.1)
     |false=>exact to _ (c1 (j:= .code b) h0.2)
    |_=>exact .inl ⟨_,_,_,rfl⟩
   |block id c=>exact to _ (c2 (j:= .code c) (j':= .inBlock id) h0 trivial)
   |loop c=>exact to _ (c2 (j:= .code c) (j':= .inLoop c) h0 h0)
   |scope c=>exact to _ (c2 (j:= .code c) (j':= .inScope c) h0 h0)
   |exit id=>
    cases he:exitTo id k with
    |none=>exact leave (some (.exit id)) (λ_ h=>by cases h;rfl) _ _ (by simp only[stepG.exec,he,Option.elim];rfl) (by simp only[stepG.exec,he,Option.elim];rfl)
    |some k'=>
     have:=to k' (ZqW id hk he);simp only[stepG.exec,he,Option.elim];exact this
   |goto id=>
    cases he:gotoIn id k with
    |none=>exact leave (some (.goto id)) (λ_ h=>by cases h;rfl) _ _ (by simp only[stepG.exec,he,Option.elim];rfl) (by simp only[stepG.exec,he,Option.elim];rfl)
    |some k'=>
     have:=to k' (ZqY id hk he);simp only[stepG.exec,he,Option.elim];exact this
   |refuse s=>exact .inl ⟨_,_,_,rfl⟩
   |region id ops dr=>
    have h0:ops.toList.all (opW ·.op)=true:=h0;cases dr with
    |false=>exact to _ (c1 (j:= .inRegion ops _) h0)
    |true=>
     refine .inr ⟨⟨fn,tmps,.inRegion ops (Region.schedule (P.follows .mixedOrders) ops (w.tape w.drawn (.order fn id)))::k,defers,mode,kind,ro⟩,l,{w with drawn:=w.drawn+1},_,#[],rfl,rfl,hs.put ⟨hf.wf,c1 h0,hf.defers,hf.kind⟩ rfl,⟨λ_ _ h=> .inl h,λ_ _ _ h=>h⟩,XB _,λe he=>by simp at he⟩
   |rangeFunc f ps a b=>
    simp only[codeW,YG] at h0;unfold stepG.exec;dsimp only;rcases two (Zpf (t:=tmps) (ps:=ps) (ro:=ro) hf.wf h0.1 h0.2) w with⟨h,w',es,hx,hd⟩|⟨w',new,es,h1,h2,h3,⟨⟨r,mk⟩,hx,hy,ha⟩|⟨v,hx,hy⟩|⟨g,pc,pe,hg,hx⟩⟩
    ·left;simp only[hx];exact⟨_,_,_,rfl⟩
    ·simp only[hx,hy]
     have Cn:SO ⟨fn,tmps,.inRangeFunc r::k,mk++defers,mode,kind,ro⟩ l:=hs.put ⟨hf.wf,c1 (j:= .inRangeFunc r) trivial,λd hd=>by
      rcases VB.1 hd with hd|hd
      ·exact ha d hd
      ·exact hf.defers d hd,hf.kind⟩ rfl
     refine ZpF h1 h2 (λe he=>h3 e (Z2m P fn new e he)) (ZnS Cn (hw.jn h1) (Zpr _ _))
    ·left;simp only[hx];exact⟨_,_,_,rfl⟩
    ·left;simp only[hx];exact⟨_,_,_,rfl⟩
  |inBlock _=>exact to k hk
  |inScope _=>exact to k hk
  |inLoop c=>exact to _ (c2 (j:= .code c) (j':= .inLoop c) h0 h0)
  |inRangeFunc _=>exact .inl ⟨_,_,_,rfl⟩
  |beginRound=>
   unfold stepG.exec;dsimp only;cases ro with
   |none=>exact ZnS hs hw (X:=do (none:Option Nat).elim (stuck "beginRound: no round") Instr.beginRound;pure .skip) (.dead (h:= .stuck _) trivial)
   |some r=>exact ZnS hs hw (X:=do (some r).elim (stuck "beginRound: no round") Instr.beginRound;pure .skip) ((ZoS r).bind λ_ _=> .pure trivial)
  |endRangeFunc r=>
   unfold stepG.exec;dsimp only;rcases two (Zq4 r) w with⟨h,w',es,hx,hd⟩|⟨w',new,es,h1,h2,h3,⟨j,hx,hy,ha⟩|⟨v,hx,hy⟩|⟨g,pc,pe,hg,hx⟩⟩
   ·left;simp only[hx];cases h<;>first|exact⟨_,_,_,rfl⟩|exact hd.elim
   ·right
    simp only[hx,hy];refine⟨⟨fn,tmps,(j.map Item.code).toList++k,defers,mode,kind,ro⟩,l,w',_,seen P fn new++ #[],rfl,rfl,hs.put ⟨hf.wf,λi hi=> ?_,hf.defers,hf.kind⟩ rfl,h1,h2,ZnW h3⟩;rcases VB.1 hi with hi|hi
    ·cases j with
     |none=>simp at hi
     |some c=>simp at hi;subst hi;exact ha c rfl
    ·exact hk i hi
   ·right
    simp only[hx,hy];exact⟨_,l,w',_,seen P fn new++ #[],rfl,rfl,hs.put (hf.raise _) (ZnZ _ _),h1,h2,ZnW h3⟩
   ·left;simp only[hx];exact⟨_,_,_,rfl⟩
  |inRegion ops td=>
   have h0:ops.toList.all (opW ·.op)=true:=h0;cases td with
   |nil=>exact to k hk
   |cons i td=>
    unfold stepG.exec;dsimp only;split
    ·unfold stepG.oper;cases ho:ops[i]? with
     |none=>left;simp only[Frame.oper?,ho];exact⟨_,_,_,rfl⟩
     |some o=>
      have A2:opW o.op=true:=YL.1 h0 o (SP.2 (Array.mem_of_getElem? ho));simp only[Frame.oper?,ho];split
      ·rename_i he;rw[he] at A2;cases A2
      ·exact ZnS hs hw (ZqD _ o A2)
    ·exact Zoa hs (hf.finish _) (Z0w _ _)
  |_=>exact h0.elim
theorem Zpg(hs:SO fr l)(hm:fr.mode≠.run)(hl:l=[]->fr.defers≠[]):Zqz fr l bot bot' w (unwind (Z6 P fs) true fr (l++bot) none (clean Wob w)) (unwind P true fr (l++bot') none w):=by
 have hf:=hs.fo;unfold unwind;cases hd:fr.defers with
 |cons d ds=>
  obtain⟨r,hr⟩:=hf.defers d (by rw[hd];exact YY);obtain⟨tg,args⟩:=d;dsimp only at hr;subst hr;dsimp only;rcases two (Zon r) w with⟨h,w',es,hx,hd⟩|⟨w',new,es,h1,h2,h3,⟨j,hx,hy,ha⟩|⟨v,hx,hy⟩|⟨g,pc,pe,hg,hx⟩⟩
  ·left;simp only[hx];exact⟨_,_,_,rfl⟩
  ·right
   simp only[hx,hy];subst ha;exact⟨{fr with defers:=[]++ds},l,w',_,seen P fr.fn new++ #[],rfl,rfl,hs.put ⟨hf.wf,hf.todo,λd hd'=>hf.defers d (by rw[hd];exact YW _ (by simpa using hd')),hf.kind⟩ rfl,h1,h2,ZnW h3⟩
  ·left;simp only[hx];exact⟨_,_,_,rfl⟩
  ·left;simp only[hx];exact⟨_,_,_,rfl⟩
 |nil=>
  dsimp only;obtain⟨fn,c,e1,e2,e3,e4,e5⟩:=hf.wf;have e1':(Z6 P fs).funcs[fr.fn]? =some fn:=e1;cases l with
  |nil=>exact absurd hd (hl rfl)
  |cons c l=>
   cases A7:fr.mode with
   |run=>exact absurd A7 hm
   |panicking ch=>
    dsimp only;have k1:fr.catches (Z6 P fs)=false:=(by simp[Frame.catches,e1']);have k2:fr.catches P=false:=(by simp[Frame.catches,e2]);simp only[k1,k2,YR,XZ,YK];exact .inr ⟨c.raise ch,l,w,_,#[],rfl,rfl,hs.2.put (hs.2.fo.raise ch) (ZnZ _ _),Jn.refl _ _,XB _,λe he=>by simp at he⟩
   |returning=>
    simp only[e1',e2];rcases two (S.h (X:=results fn fr.tmps)) w with⟨h,w',es,hx,hd⟩|⟨w',new,es,h1,h2,h3,⟨j,hx,hy,ha⟩|⟨v,hx,hy⟩|⟨g,pc,pe,hg,hx⟩⟩
    ·left;simp only[hx];cases h<;>exact⟨_,_,_,rfl⟩
    ·right
     refine⟨c.finish j,l,w',seen (Z6 P fs) fr.fn es++ #[],seen P fr.fn new++ #[],?_,?_,hs.2.put (hs.2.fo.finish j) (Z0w _ _),h1,h2,ZnW h3⟩
     ·simp only[hx,doReturn,hf.kind,YK];rfl
     ·simp only[hy,doReturn,hf.kind,YK];rfl
    ·left;simp only[hx];exact⟨_,_,_,rfl⟩
    ·left;simp only[hx];exact⟨_,_,_,rfl⟩
theorem Zq6(hs:SO fr l)(hw:PW w):Zqz fr l bot bot' w (stepG (Z6 P fs) true (G fr (l++bot)) (clean Wob w)) (stepG P true (G fr (l++bot')) w)\/(l=[]/\fr.mode≠.run/\fr.defers=[]):=by
 by_cases h:l=[]/\fr.mode≠.run/\fr.defers=[]
 ·exact .inr h
 ·left
  unfold stepG G;dsimp only;cases hm:fr.mode with
  |run=>exact Zq5 hs hw
  |_=>exact Zpg hs (by rw[hm];simp) (λe hd=>h ⟨e,by rw[hm];simp,hd⟩)
end
end
section
open Go.Conc
open Go.Nk (Ban Z6 trap Z0h Z4D)
variable [Ban] [Pf] [FsW]
open Pf
theorem Z9m(v:Value)(w:World):∃o w1 es,stepG (Z6 P fs) true (G (trap.finish v) []) w= .ended o w1 es:=⟨_,_,_,rfl⟩
theorem Zq7(c:List PanicEntry)(w:World):∃o w1 es,stepG (Z6 P fs) true (G (trap.raise c) []) w= .ended o w1 es:=⟨_,_,_,rfl⟩
theorem ZqE(hf:FO fr)(hm:fr.mode≠.run)(hd:fr.defers=[]):(∃o w1 es,stepG (Z6 P fs) true (G fr [trap]) w= .ended o w1 es)\/
 ∃fr1 w1 es,stepG (Z6 P fs) true (G fr [trap]) w= .go (G fr1 []) w1 es/\∀w,∃o w1 es,stepG (Z6 P fs) true (G fr1 []) w= .ended o w1 es:=by
 obtain⟨fn,c,e1,e2,e3,e4,e5⟩:=hf.wf;have e1':(Z6 P fs).funcs[fr.fn]? =some fn:=e1;unfold stepG G;dsimp only;cases A7:fr.mode with
 |run=>exact absurd A7 hm
 |panicking ch=>
  have k1:fr.catches (Z6 P fs)=false:=by simp[Frame.catches,e1']
  simp only[unwind,hd,A7,k1,YR,XZ];exact .inr ⟨trap.raise ch,w,_,rfl,Zq7 ch⟩
 |returning=>
  simp only[unwind,hd,A7,e1'];rcases hx:(results fn fr.tmps).runT (Z6 P fs) w #[] with⟨x,es⟩;cases x with
  |ok v w1=>exact .inr ⟨trap.finish v,w1,_,by simp only[doReturn,hf.kind];rfl,Z9m v⟩
  |halt h w1=>left;cases h<;>exact⟨_,_,_,rfl⟩
theorem Zrg{e:Event}(h:EvW B e):EvL (λ_=>False) B e:=⟨λ_ _ h=>h.elim,h.2.1,h.2.2,h.1⟩
theorem carry:∀(n:Nat){fr fr':Frame}{l l':List Frame}{w w':World}{t:Trace},runN (Z6 P fs) n (lone fr (l++[trap]) (clean Wob w))= .next (lone fr' (l'++[trap]) w')->SO fr l->PW w->Past (λ_=>False) w.heap.size t->(∀op∈t,op.g=0)->
 ∃w2 t',w'=clean Wob w2/\Jn Wob w w2/\runNT P n (crowd #[G fr l] w none) t=(.next (crowd #[G fr' l'] w2 none),t')/\Past (λ_=>False) w2.heap.size t'/\(∀op∈t',op.g=0)/\w.heap.size<=w2.heap.size:=by
 intro n
 induction n with
 |zero=>
  intro fr fr' l l' w w' t h hs hw hp hg;simp only[runN,VV] at h;have h1:fr=fr'/\l++[trap]=l'++[trap]/\clean Wob w=w':=by
   simp only[lone,Machine.mk.injEq,Array.mk.injEq,SH,Goroutine.mk.injEq] at h;exact⟨h.2.1.1.1,h.2.1.1.2.1,h.1⟩
  obtain⟨rfl,h2,rfl⟩:=h1;obtain rfl:=List.append_cancel_right h2;exact⟨w,t,rfl,Jn.refl _ _,rfl,hp,hg,XB _⟩
 |succ n ih=>
  intro fr fr' l l' w w' t h hs hw hp hg;rcases Zq6 (w:=w) (bot:=[trap]) (bot':=[]) hs hw with(⟨o,w1,es,he⟩|⟨fr1,l1,w1,es1,es2,h1,h2,h3,h4,h5,h6⟩)|⟨rfl,hm,hd⟩
  ·simp only[runN,Z4D he] at h;cases h
  ·simp only[runN,Z0h h1] at h;have e:stepT P (crowd #[G fr l] w none)=(.next (crowd #[G fr1 l1] w1 none),MemOp.ofEvents 0 fr.fn fr.place es2):=by
    rw[<-QC,stepT_solo rfl,QC];rw[UQ,UQ] at h2;have:=RH (P:=P) (gs:= #[G fr l]) (sl:=none) (i:=0) (g:=G fr l) rfl (show stepG P (0==0) (G fr l) w=_ from h2);simp only[TM,VC,VQ] at this;exact this
   have Ep:=(hp.mono h5).own (fn:=fr.fn) (pos:=fr.place) λe he=>Zrg (h6 e he)
   obtain⟨w2,t',q0,q9,q1,q2,q3,q4⟩:=ih (t:=t++MemOp.ofEvents 0 fr.fn fr.place es2) h h3 (hw.jn h4) Ep λop A2=>by
    rcases UL.1 A2 with A2|A2
    ·exact hg op A2
    ·obtain⟨e,_,rfl⟩:=XN A2;rfl
   exact⟨w2,t',q0,h4.trans q9,by simp only[runNT,e];exact q1,q2,q3,XD h5 q4⟩
  ·exfalso;have key:∀{fr1:Frame}{w1:World},(∀w,∃o w1 es,stepG (Z6 P fs) true (G fr1 []) w= .ended o w1 es)->runN (Z6 P fs) n (lone fr1 [] w1)= .next (lone fr' (l'++[trap]) w')->False:=by
    intro fr1 w1 he h;cases n with
    |zero=>
     simp only[runN,VV,lone,Machine.mk.injEq,Array.mk.injEq,SH,Goroutine.mk.injEq] at h;have:=h.2.1.1.2.1;simp at this
    |succ n=>
     obtain⟨o,w2,es,he⟩:=he w1;simp only[runN,Z4D he] at h;cases h
   rcases ZqE (w:=clean Wob w) hs.fo hm hd with⟨o,w1,es,he⟩|⟨fr1,w1,es,he,hx⟩
   ·simp only[YJ,runN,Z4D he] at h;cases h
   ·simp only[YJ,runN,Z0h he] at h;exact key hx h
end
section
open Go.Conc
open Go.Nk (Ban)
open Go.Extern
variable [Ban] [Cx]
instance (a n acc):S (Bytes.loadBytes a n acc):=by
 induction n generalizing a acc with
 |zero=>exact .of (Bytes.loadBytes.eq_def a 0 acc)
 |succ n ih=>exact .of (Bytes.loadBytes.eq_def a (n+1) acc)
instance (v):S (Bytes.bytesOf v):= .of (Bytes.bytesOf.eq_def v)
instance (v):S (Bytes.asByte v):= .of (Bytes.asByte.eq_def v)
instance (n):S (globalAddr n):=by
 unfold globalAddr;refine S.prog rfl ?_;split<;>infer_instance
instance :S BytealgIndex.maxLen:= .of (BytealgIndex.maxLen.eq_def)
instance (a):S (AbiNoEscape.same a):=by
 unfold AbiNoEscape.same;obtain⟨l⟩:=a;rcases l with _|⟨x,_|⟨y,l⟩⟩
 rotate_left
 ·exact inferInstanceAs (S (pure _))
 all_goals exact inferInstanceAs (S (stuck _))
instance (a):S (BytealgIndexByte.indexByte a):=by
 unfold BytealgIndexByte.indexByte;obtain⟨l⟩:=a;rcases l with _|⟨x,_|⟨y,_|⟨z,l⟩⟩⟩
 rotate_left 2
 ·exact S.of rfl (S.bindT (X:=Bytes.bytesOf x) inferInstance λb=>S.bindT (X:=Bytes.asByte y) inferInstance λc=> .of rfl)
 all_goals exact inferInstanceAs (S (stuck _))
instance (a):S (BytealgCount.count a):=by
 unfold BytealgCount.count;obtain⟨l⟩:=a;rcases l with _|⟨x,_|⟨y,_|⟨z,l⟩⟩⟩
 rotate_left 2
 ·exact S.of rfl (S.bindT (X:=Bytes.bytesOf x) inferInstance λb=>S.bindT (X:=Bytes.asByte y) inferInstance λc=> .of rfl)
 all_goals exact inferInstanceAs (S (stuck _))
instance (a):S (BytealgIndex.index a):=by
 unfold BytealgIndex.index;obtain⟨l⟩:=a;rcases l with _|⟨x,_|⟨y,_|⟨z,l⟩⟩⟩
 rotate_left 2
 ·exact S.of rfl (S.bindT (X:=Bytes.bytesOf x) inferInstance λb=>S.bindT (X:=Bytes.bytesOf y) inferInstance λc=>S.bindT (X:=BytealgIndex.maxLen) inferInstance λm=> .of rfl)
 all_goals exact inferInstanceAs (S (stuck _))
instance (p r a):S (BytealgMakeNoZero.makeNoZero p r a):=by
 unfold BytealgMakeNoZero.makeNoZero;obtain⟨l⟩:=a;rcases l with _|⟨x,_|⟨y,l⟩⟩
 rotate_left
 ·cases x with
  |int k n=>
   cases k with
   |i64=>
    obtain⟨l⟩:=r;rcases l with _|⟨t,l⟩
    ·exact inferInstanceAs (S (stuck _))
    ·exact S.of rfl (S.bindT (X:=underlying t) inferInstance λd=> .of rfl)
   |_=>exact inferInstanceAs (S (stuck _))
  |_=>exact inferInstanceAs (S (stuck _))
 all_goals exact inferInstanceAs (S (stuck _))
end
end Go.Ns
namespace Go.Proofs.Tryp
section
open Go.Nk Go.Ns
open Go.Proofs.Tryq (Tw gp stub keptList Z7 theBan)
attribute [local instance] theBan
def bare:List Nat:=[183,184,189,211,223]
def more:List Nat:=[4,7,9,11,14,16,37,38,39,44,45,46,47,50,80,84,85,86,87,120,121,122,123,124,125,126,127,128,129,130,131,132,148,149,150,151,152,153,154,155,156,157,158,159,160,161,185,186,187,188,190,191,192,193,194,195,196,197,198,199,200,201,202,209,210,212,213,214,215,216,222,224,225,226,227,231,232,203,217,218,219,220,221,228,229,230,233,234,252,253,255,256]
def kept:List Nat:=keptList++more
noncomputable def fs:Array Func:=Tryz.prog.funcs.mapIdx λi f=>if kept.contains i||bare.contains i then f else stub
theorem same(h:(kept.contains i||bare.contains i)=true):fs[i]? =Tryz.prog.funcs[i]? :=by
 unfold fs;rw[Array.getElem?_mapIdx];cases Tryz.prog.funcs[i]? with
 |none=>rfl
 |some f=>simp only[XI,h,XQ]
@[reducible] noncomputable def k3:Tw:=⟨fs,λi hi=>same (by
  rw[VH.2 (show i∈kept from RP _ hi),RX])⟩
noncomputable abbrev prog:Program:= @gp k3
noncomputable instance pf:Pf:=⟨Tryz.prog,fs⟩
noncomputable def Zrh(i:Nat):Bool:=match Tryz.prog.funcs[i]? with
 |some fn=>(match fn.body with|some c=>codeW c&& !(fn.name== "runtime.NumGoroutine")|none=>false)
 |none=>false
theorem kept_all:kept.all Zrh=true:=by kernel_rfl
theorem wf{f:Nat}(h:kept.contains f=true):WF f:=by
 have h1:=YL.1 kept_all f (VH.1 h);unfold Zrh at h1;split at h1
 ·rename_i fn hfn;split at h1
  ·rename_i c hc;simp only[YG,XR] at h1;exact⟨fn,c,(same (by rw[h,RX])).trans hfn,hfn,hc,h1.1,h1.2⟩
  ·cases h1
 ·cases h1
theorem xf{f:Nat}{e:Array Value->Sem Value}(h:bare.contains f=true)(h1:Tryz.prog.funcs[f]? =some fn)(h2:fn.body=none)(h3:(fn.name== "runtime.NumGoroutine")=false)(h4:Extern.findNext fn=none)(h5:Extern.find fn=some e)(h6:∀a,S (e a)):XF f:=
 ⟨fn,e,(same (by rw[h,Bool.or_true])).trans h1,h1,h2,h3,h4,h5,h6⟩
theorem Zri{f:Nat}(h:f∈bare):XF f:=by
 simp only[bare,XE,XL,VO] at h;rcases h with rfl|rfl|rfl|rfl|rfl
 ·exact xf (fn:=Tryz.f183) (e:=Extern.AbiNoEscape.same) (by decide) (by kernel_rfl) (by kernel_rfl) (by kernel_rfl) (by kernel_rfl) (by kernel_rfl) inferInstance
 ·exact xf (fn:=Tryz.f184) (e:=Extern.BytealgMakeNoZero.makeNoZero Tryz.f184.params Tryz.f184.resultTypes) (by decide) (by kernel_rfl) (by kernel_rfl) (by kernel_rfl) (by kernel_rfl) (by kernel_rfl) inferInstance
 ·exact xf (fn:=Tryz.f189) (e:=Extern.BytealgIndexByte.indexByte) (by decide) (by kernel_rfl) (by kernel_rfl) (by kernel_rfl) (by kernel_rfl) (by kernel_rfl) inferInstance
 ·exact xf (fn:=Tryz.f211) (e:=Extern.BytealgCount.count) (by decide) (by kernel_rfl) (by kernel_rfl) (by kernel_rfl) (by kernel_rfl) (by kernel_rfl) inferInstance
 ·exact xf (fn:=Tryz.f223) (e:=Extern.BytealgIndex.index) (by decide) (by kernel_rfl) (by kernel_rfl) (by kernel_rfl) (by kernel_rfl) (by kernel_rfl) inferInstance
instance :FsW:=⟨λf fn' h=>(by
 by_cases hk:kept.contains f=true
 ·exact .inr (.inl (wf hk))
 ·by_cases hb:bare.contains f=true
  ·exact .inr (.inr (Zri (VH.1 hb)))
  ·left
   change fs[f]? =some fn' at h
   unfold fs at h;rw[Array.getElem?_mapIdx] at h;cases hf:Tryz.prog.funcs[f]? with
   |none=>rw[hf] at h;cases h
   |some g=>
    rw[hf] at h;simp only[XI,hk,hb,Bool.or_self,YR,XZ,XJ] at h;subst h;show Z6k stub=true
    kernel_rfl),by kernel_rfl⟩
theorem Zrj[T:Tw]{n:Nat}{fn:Func}(h:T.fs[n]? =some fn):gp.funcs[n]? =some fn:=h
theorem ZV(h:(kept.contains n||bare.contains n)=true)(h2:Tryz.prog.funcs[n]? =some fn):prog.funcs[n]? =some fn:=Zrj (T:=k3) ((same h).trans h2)
class Kq(n:Nat):Prop where
 h:kept.contains n=true
theorem fq{f:Func}[k:Kq n](h:Tryz.prog.funcs[n]? =some f):prog.funcs[n]? =some f:=ZV (by rw[k.h,RX]) h
@[simp] theorem Zrs (n:Nat) [k:Kq n] (a w):(callFunc n a).run prog w= .ok (.enter n a) w:=by
  obtain⟨fn,c,h1,h2,h3,h4,h5⟩:=wf k.h;exact Z7 (fq h2) h5 (by rw[h3];rfl) a w
instance :Kq 7:=⟨rfl⟩
instance :Kq 9:=⟨rfl⟩
instance :Kq 11:=⟨rfl⟩
instance :Kq 14:=⟨rfl⟩
instance :Kq 16:=⟨rfl⟩
instance :Kq 37:=⟨rfl⟩
instance :Kq 38:=⟨rfl⟩
instance :Kq 39:=⟨rfl⟩
instance :Kq 44:=⟨rfl⟩
instance :Kq 45:=⟨rfl⟩
instance :Kq 46:=⟨rfl⟩
instance :Kq 47:=⟨rfl⟩
instance :Kq 50:=⟨rfl⟩
instance :Kq 80:=⟨rfl⟩
instance :Kq 85:=⟨rfl⟩
instance :Kq 86:=⟨rfl⟩
instance :Kq 87:=⟨rfl⟩
instance :Kq 124:=⟨rfl⟩
instance :Kq 125:=⟨rfl⟩
instance :Kq 126:=⟨rfl⟩
instance :Kq 127:=⟨rfl⟩
instance :Kq 128:=⟨rfl⟩
instance :Kq 129:=⟨rfl⟩
instance :Kq 130:=⟨rfl⟩
instance :Kq 131:=⟨rfl⟩
instance :Kq 157:=⟨rfl⟩
instance :Kq 158:=⟨rfl⟩
instance :Kq 159:=⟨rfl⟩
instance :Kq 160:=⟨rfl⟩
instance :Kq 252:=⟨rfl⟩
instance :Kq 253:=⟨rfl⟩
instance :Kq 255:=⟨rfl⟩
instance :Kq 256:=⟨rfl⟩
end
section
open Go.Nk Go.Shelf
def ren:Ren where
 f:=fun
  |102=>87|209=>132|207=>161|156=>80|165=>120|166=>121|169=>122|240=>148|241=>149|276=>183|277=>184
  |146=>126|221=>155|268=>190|138=>191|143=>192|195=>209|197=>210|218=>211|219=>212|260=>222|217=>154|225=>223|224=>224|267=>225|266=>189|314=>231
  |145=>157|220=>193
  |171=>44|243=>84|246=>123|283=>150|284=>151|285=>152|286=>153|129=>186|317=>185|318=>187|319=>188|320=>145|337=>180|338=>181
  |172=>160|244=>202|245=>203|247=>217|279=>218|280=>219|281=>220|282=>221|287=>228|316=>229|205=>230|321=>233|322=>234
  |160=>159|232=>196|231=>195|227=>197|234=>199|233=>198|236=>201|235=>200|228=>214|271=>216|151=>215|120=>227|152=>226|137=>125|119=>232
  |110=>127|109=>156|103=>158|210=>194|206=>213|n=>n
 t:=fun
  |31=>85|9=>9|3=>3|4=>4|0=>0|20=>20|72=>204|76=>206|70=>201|37=>202|75=>91|127=>248|164=>155|5=>5|80=>208
  |105=>304|21=>21|46=>191|119=>320|139=>323|138=>322|146=>324|51=>241|59=>254
  |2=>2|171=>249|53=>148|173=>251|212=>283|213=>284|232=>301|233=>302
  |117=>290|116=>289|124=>293
  |167=>307|85=>308|168=>310|175=>314|210=>318|145=>330|143=>328|24=>259|n=>n
 g:=fun
  |1=>7|3=>10|4=>11|17=>4|18=>5|19=>6|15=>8|16=>9|n=>n
theorem lJ:Lays.n156 prog ren:=by
 constructor
 all_goals first
  |(with_reducible refine ZV (n:=_) ?_ ?_)<;>kernel_rfl
  |(intros;kernel_rfl)
theorem lX0:Builder.X72 prog ren:=by
 constructor
 all_goals first
  |(with_reducible refine ZV (n:=_) ?_ ?_)<;>kernel_rfl
  |(intros;kernel_rfl)
theorem lX:Builder.Extra prog ren:=by
 constructor
 all_goals first
  |exact lX0
  |decide
  |(intros;kernel_rfl)
theorem lTS:Lays.n102 prog ren:=by
 constructor
 all_goals first
  |(with_reducible refine ZV (n:=_) ?_ ?_)<;>kernel_rfl
  |(intros;kernel_rfl)
theorem lSp:Lays.n146 prog ren:=by
 constructor
 all_goals first
  |(with_reducible refine ZV (n:=_) ?_ ?_)<;>kernel_rfl
  |(intros;kernel_rfl)
theorem lC:Lays.n145 prog ren:=by
 constructor
 all_goals first
  |(with_reducible refine ZV (n:=_) ?_ ?_)<;>kernel_rfl
  |(intros;kernel_rfl)
theorem lI0:Lays.n171 prog ren:=by
 constructor
 all_goals first
  |(with_reducible refine ZV (n:=_) ?_ ?_)<;>kernel_rfl
  |(intros;kernel_rfl)
theorem lI:LaysM.n171 prog ren:=by
 constructor
 all_goals first
  |exact lI0
  |(intros;kernel_rfl)
theorem lA:Lays.n172 prog ren:=by
 constructor
 all_goals first
  |(with_reducible refine ZV (n:=_) ?_ ?_)<;>kernel_rfl
  |(intros;kernel_rfl)
theorem lT:Lays.n160 prog ren:=by
 constructor
 all_goals first
  |(with_reducible refine ZV (n:=_) ?_ ?_)<;>kernel_rfl
  |(intros;kernel_rfl)
theorem lCo:Lays.n110 prog ren:=by
 constructor
 all_goals first
  |(with_reducible refine ZV (n:=_) ?_ ?_)<;>kernel_rfl
  |(intros;kernel_rfl)
theorem lCp:Lays.n103 prog ren:=by
 constructor
 all_goals first
  |(with_reducible refine ZV (n:=_) ?_ ?_)<;>kernel_rfl
  |(intros;kernel_rfl)
end
section
open Go.Nk Go.RowKit Go.Shelf Go.Proofs Go.Proofs.Tryq
attribute [local instance] k3
abbrev str(l:List UInt8):Value:= .string ⟨l.toArray⟩
structure Pow(w:World):Prop where
 lt:4<w.heap.size
 tab:Lib.TabIs Tryp.prog w "internal/strconv.uint64pow10" .u64 Lib.pow10Tab
theorem Pow.ext(h:Pow w)(e:Ext w w'):Pow w':=⟨YS h.lt e.size,by
 have h1:=h.tab;unfold Lib.TabIs World.var? at h1⊢;have hg:Tryp.prog.globalNamed "internal/strconv.uint64pow10" =some 4:=by kernel_rfl
 rw[hg] at h1⊢;simp only[SQ] at h1⊢;rw[e.old 4 h.lt];exact h1⟩
theorem ZqF(w:World)(k:Nat)(os:Array Obj):Ext w (Go.Sort.grow (w.drewN k) os):=by
 exact⟨by simp[Go.Sort.grow,World.drewN],λb hb=>by simp[Go.Sort.grow,World.drewN,Array.getElem?_append,hb],rfl,rfl,rfl⟩
theorem Zps(n:Int)(h0: -9223372036854775808<=n)(h1:n<=9223372036854775807)(w:World)(ht:Pow w):
 Calls Tryp.prog 44 #[n] w λe w'=>e= .returned (str (Lib.itoa n))/\Ext w w':=
 (Any.strconv_Itoa lI n h0 h1 w ht.tab).mono λe w' ⟨h,k,os,e'⟩=>⟨h,by subst e';exact ZqF _ _ _⟩
theorem u85:Tryp.prog.underlying 85=some (.slice 9):=(underlying_eq 85).trans Tryz.underlying85
theorem i9:Tryp.prog.info? 9=some Tryz.t9:=by kernel_rfl
theorem t9z:Tryz.t9.zero=some (.string ⟨#[]⟩):=by kernel_rfl
theorem t9s:Tryz.t9.size=1:=by kernel_rfl
theorem t9b:Tryz.t9.bytes=16:=by kernel_rfl
def ZpH(b:Nat)(w:World)(v:Value)(l:List (List UInt8)):Prop:=w.ownsRow b 9 1 v l.length (l.map str)
theorem ZnH(b off n cap:Nat)(l:List Int)(w:World)(hn:l.length=n)(hb:n<=100)(hl:∀(j:Nat)(x:Int),l[j]? =some x->w.cell? ⟨b,off+j,none⟩=some (.int .i64 x))(hw:b<w.heap.size)(hI:∀x∈l,-9223372036854775808<=x/\x<=9223372036854775807)(hp:Pow w):
 Calls Tryp.prog 38 #[.slice (some ⟨b,off,none⟩) n cap] w λe w'=>∃v,e= .returned v/\ZpH w.heap.size w' v (l.map Lib.itoa)/\Ext w w':=by
 replace hl:Hid (∀(j:Nat)(x:Int),l[j]? =some x->w.cell? ⟨b,off+j,none⟩=some (.int .i64 x)):=hl;replace hI:Hid (∀x∈l,-9223372036854775808<=x/\x<=9223372036854775807):=hI;replace hn:Hid (l.length=n):=hn;go_enter fq Tryz.func38,Tryz.ntmps38;go_wp2;go_loopw [3,8] (λv3 v8 wr=>∃i:Nat,i<=n/\v8= .int .i64 i/\ZpH w.heap.size wr v3 ((l.take i).map Lib.itoa)/\Ext w wr) (λ_ v8 _=>n - (intOf v8).toNat)
 case atStart=>exact⟨0,by omega,rfl,VN _ _ _ _,Ext.rfl' w⟩
 case round=>
  rename_i v3 _;obtain⟨i,hi,rfl,Ac,hE⟩:=hrel;by_cases Ao:i=n
  ·subst Ao;go_wp2;go_ret;refine⟨_,rfl,?_,hE⟩;rw[show l.take i=l from VT (by have:=hn.out;omega)] at Ac;exact Ac
  ·have A3:(i:Int)<(n:Int):=by omega
   obtain⟨x,hx⟩:∃x,l[i]? =some x:=⟨_,YH (by have:=hn.out;omega)⟩;have c0:=hE.cellS (hl.out i x hx);have Li:=hI.out x (YQ hx);have hit:=λw hp=>Zps x Li.1 Li.2 w hp
   have J4:=hp.ext hE;have H:Hid (l.take (i+1)=l.take i++[x]):=by show _=_;rw[TG,hx];rfl
   have A1:((l.take i).map Lib.itoa).length=i:=by rw[UI,UK];have:=hn.out;omega
   clear hx;have In:((l.take i).map Lib.itoa).length+1<=maxLen:=by rw[A1];simp[maxLen];omega
   have Fr:(((l.take i).map Lib.itoa).length+1)*16<=140737488355328:=by rw[A1];omega
   clear A1
   go_wp2_with (first
    |(go_at_call 44;refine(hit _ J4).mono ?_;rintro e w2 ⟨rfl,A4⟩)
    |(at_builtin
      refine UG _ rfl _ _ _ rfl w.heap.size 9 Tryz.t9 (.string ⟨#[]⟩) 1 16 u85 i9 t9z t9s t9b rfl (by omega) _ _ _ rfl ((Z00 Ac A4).alloc _) ⟨w2.heap.size,0,none⟩ 1 1 [str (Lib.itoa x)] rfl rfl (Z1N _ _ _) (by intro u hu;simp at hu;subst hu;rfl) In Fr (by have:=hE.size;have:=A4.size;simp;omega) ?_;intro v' w3 Aa A5 _;have Ah:Ext w w3:=((hE.trans A4).alloc _).grown A5 (λk hk=>(Ac.lt k hk).1)))
   go_roundw
   case rel=>exact⟨i+1,by omega,by push_cast;rfl,by rw[H.out];simpa[ZpH] using Aa,Ah⟩
   case measure=>simp[intOf];omega
theorem ZoT(h:Below w.heap.size w w'):Ext w w':=⟨h.size,h.block,h.tape,h.os,h.output⟩
theorem ZqG(b n c:Nat)(l:List (List UInt8))(w:World)(hn:l.length=n)(hc:∀(j:Nat)(x:Value),(l.map str)[j]? =some x->w.cell? ⟨b,j,none⟩=some x)(hb:b<w.heap.size)(hN:n<=1000)(D6:n<=c)
 (hl:([32].intercalate l).length<=140737488355328):Calls Tryp.prog 80 #[.slice (some ⟨b,0,none⟩) n c,.string ⟨#[32]⟩] w λe w'=>e= .returned (str ([32].intercalate l))/\Ext w w':=by
 subst hn;have e:(l.map λx=>(⟨x.toArray⟩:ByteArray)).map (·.data.toList)=l:=by
  rw[List.map_map];exact List.map_id' l
 have h:=Any.strings_Join lJ lX b 0 c (l.map λx=>(⟨x.toArray⟩:ByteArray)) ⟨#[32]⟩ w (λj x hx=>by
  rw[List.getElem?_map] at hx;cases hj:l[j]? with
  |none=>rw[hj] at hx;cases hx
  |some y=>
   rw[hj] at hx;obtain rfl:=YT hx;rw[UA];exact hc j _ (by rw[List.getElem?_map,hj];rfl)) hb (by simp;omega) (by simpa using D6) (by rw[e];exact hl)
 rw[e,UI] at h;exact h.mono λe w' ⟨h1,h2⟩=>⟨h1,ZoT h2⟩
theorem ZoB(word:List UInt8)(b n c:Nat)(l:List (List UInt8))(w:World)(hn:l.length=n)(h0:0<n)(hc:∀(j:Nat)(x:Value),(l.map str)[j]? =some x->w.cell? ⟨b,j,none⟩=some x)(hb:b<w.heap.size)(hN:n<=100)
 (hl:([32].intercalate (word::l)).length<=140737488355328):Calls Tryp.prog 37 #[str word,.slice (some ⟨b,0,none⟩) n c] w λe w'=>e= .returned (str ([32].intercalate (word::l)++[10]))/\Ext w w':=by
 replace hc:Hid (∀(j:Nat)(x:Value),(l.map str)[j]? =some x->w.cell? ⟨b,j,none⟩=some x):=hc;replace hn:Hid (l.length=n):=hn;replace hl:Hid (([32].intercalate (word::l)).length<=140737488355328):=hl;have Ac:=Z6s w w.heap.size 9 #[str word] 1 _ rfl (XB _) rfl (by decide);have Xt:(l.map str).length=n*1:=by have:=hn.out;simp;omega
 have hns:∀(j:Nat)(x:Value),(l.map str)[j]? =some x->(w.alloc (.cells #[str word] 9)).cell? ((⟨b,0,none⟩:Addr).add j)=some x:=λj x hx=>by
  rw[Z0c];exact((Ext.rfl' w).alloc _).cellS (hc.out j x hx)
 go_enter fq Tryz.func37,Tryz.ntmps37
 go_wp2_with (first
  |(at_builtin
    refine UG _ rfl _ _ _ rfl w.heap.size 9 Tryz.t9 (.string ⟨#[]⟩) 1 16 u85 i9 t9z t9s t9b rfl (by omega) _ _ _ rfl Ac ⟨b,0,none⟩ n c (l.map str) rfl Xt hns (by intro u hu;simp at hu;obtain⟨y,_,rfl⟩:=hu;rfl) (by simp[maxLen];omega) (by omega) (by simp) ?_;intro v' w3 Aa A5 _;obtain⟨g,cp,rfl,Fm,C7⟩:=XP Aa (by omega);have Ah:Ext w w3:=((Ext.rfl' w).alloc _).grown A5 (λk hk=>by obtain rfl:=YT hk;exact XB _);have D6:1+n<=cp:=by
     rcases Aa.2 with⟨h,_⟩|⟨g2,c2,cu,he,_,_,h,_⟩
     ·cases h
     ·cases he;exact h
    have Ag:∀(j:Nat)(x:Value),((word::l).map str)[j]? =some x->w3.cell? ⟨g,j,none⟩=some x:=λj x hx=>by
     have:=Aa.cells (g:=g) rfl j x hx
     rwa [Z0c] at this
    have hj:=ZqG g (1+n) cp (word::l) w3 (by have:=hn.out;simp;omega) Ag C7 (by omega) D6 hl.out;clear Ag Aa A5)
  |(go_at_call 80;refine hj.mono ?_;rintro e w4 ⟨rfl,Ak⟩))
 ·rename_i h;have:=hl.out;omega
 ·go_ret;refine⟨?_,Ah.trans Ak⟩;rw[show(⟨#[10]⟩:ByteArray)=⟨[10].toArray⟩ from rfl,UZ];rfl
end
section
open Go.Lib
theorem Znz(n:Nat):decDigits n=if n<10 then[UInt8.ofNat (48+n)] else decDigits (n / 10)++[UInt8.ofNat (48+n % 10)]:=by
 rw[decDigits];split<;>rfl
def ZoU(b:UInt8):Prop:=48<=b.toNat/\b.toNat<=57
theorem ZoV{k:Nat}(h:k<10):ZoU (UInt8.ofNat (48+k)):=by
 unfold ZoU;rw[UInt8.toNat_ofNat'];omega
theorem dec_dig:∀(n:Nat),∀b∈decDigits n,ZoU b:=by
 intro n
 induction n using Nat.strongRecOn with
 |ind n ih=>
  intro b hb;rw[Znz] at hb;split at hb
  ·rename_i h;simp only[XO] at hb;subst hb;exact ZoV h
  ·rename_i h;rcases VB.1 hb with hb|hb
   ·exact ih (n / 10) (by omega) b hb
   ·simp only[XO] at hb;subst hb;exact ZoV (Nat.mod_lt _ (by omega))
theorem dec_head:∀(n:Nat),0<n->∃b r,decDigits n=b::r/\b≠48:=by
 intro n
 induction n using Nat.strongRecOn with
 |ind n ih=>
  intro h0;rw[Znz];split
  ·rename_i h;refine⟨_,[],rfl,λe=> ?_⟩;have:=SG UInt8.toNat e;rw[UInt8.toNat_ofNat'] at this;simp at this;omega
  ·rename_i h;obtain⟨b,r,e,hb⟩:=ih (n / 10) (by omega) (by omega);exact⟨b,r++[UInt8.ofNat (48+n % 10)],by rw[e];rfl,hb⟩
theorem decFrom_app:∀(l r:List UInt8)(a m:Nat),decFrom a l=some m->decFrom a (l++r)=decFrom m r
 |[],_,_,_,h=>by cases h;rfl
 |b::l,r,a,m,h=>by
  simp only[decFrom,YK] at h⊢;cases hd:digitVal b with
  |none=>rw[hd] at h;cases h
  |some d=>
   rw[hd] at h;exact decFrom_app l r _ m h
theorem Zq8{k:Nat}(h:k<10):digitVal (UInt8.ofNat (48+k))=some k:=by
 have e:(UInt8.ofNat (48+k)).toNat=48+k:=by rw[UInt8.toNat_ofNat'];omega
 unfold digitVal;rw[e,YZ (by omega)];congr 1;omega
theorem dec_val:∀n:Nat,decFrom 0 (decDigits n)=some n:=by
 intro n
 induction n using Nat.strongRecOn with
 |ind n ih=>
  rw[Znz];split
  ·rename_i h;simp only[decFrom,Zq8 h];congr 1;omega
  ·rename_i h;rw[decFrom_app _ _ _ _ (ih (n / 10) (by omega))];simp only[decFrom,Zq8 (Nat.mod_lt n (by omega:0<10))];congr 1;omega
theorem dec_len:∀(k n:Nat),n<10 ^ (k+1)->(decDigits n).length<=k+1
 |0,n,h=>by
  rw[Znz,YZ (by omega)];simp
 |k+1,n,h=>by
  rw[Znz];split
  ·simp
  ·have:=dec_len k (n / 10) (by rw[Nat.pow_succ] at h;omega);simp only[XK,YP,XM];omega
theorem Zq9{n:Int}(h:0<=n):atoi (itoa n)=some n:=by
 obtain⟨b,r,e⟩:∃b r,decDigits n.toNat=b::r:=by
  rw[Znz];split
  ·exact⟨_,_,rfl⟩
  ·cases hd:decDigits (n.toNat / 10) with
   |nil=>exact⟨_,_,rfl⟩
   |cons b r=>exact⟨b,_,rfl⟩
 have hb:ZoU b:=dec_dig n.toNat b (by rw[e];exact YY);have hv:=dec_val n.toNat;rw[e] at hv;have h1:(b==45)=false:=by
  rw[UC];rintro rfl;exact absurd hb.1 (by decide)
 have h2:(b==43)=false:=by
  rw[UC];rintro rfl;exact absurd hb.1 (by decide)
 rw[itoa,XA (by omega),e];simp only[atoi,h1,h2,YR,XZ,decNat,List.isEmpty_cons,hv,XI];congr 1;omega
end
section
open Go.Nk Go.RowKit Go.Shelf Go.Proofs Go.Proofs.Tryq
attribute [local instance] k3
theorem Zo3(l p:List UInt8)(w:World):Calls Tryp.prog 158 #[str l,str p] w λe w'=>e= .returned (.tuple #[str (Lib.trimPrefix l p),.bool (Lib.hasPrefix l p)])/\w'=w:=by
 have h:=Any.strings_CutPrefix lCp ⟨l.toArray⟩ ⟨p.toArray⟩ w;exact h
theorem ZqH(l:List UInt8)(n:Int)(w:World)(hl:l.length<=18)(h:Lib.atoi l=some n):Calls Tryp.prog 160 #[str l] w λe w'=>e= .returned (.tuple #[n,.nilIface])/\Ext w w':=by
 refine(Any.strconv_Atoi lA ⟨l.toArray⟩ n (by show l.toArray.size<=18;simpa using hl) h w).mono λe w' ⟨h1,t,e'⟩=>⟨h1,?_⟩
 subst e';exact Z9x w _ _
theorem Zpt(l:List UInt8)(w:World)(h0:0<l.length)(hl:l.length<=1000):Calls Tryp.prog 159 #[str l,.string ⟨#[48,49,50,51,52,53,54,55,56,57]⟩] w λe w'=>e= .returned (str (Lib.trimS l [48,49,50,51,52,53,54,55,56,57]))/\Ext w w':=by
 refine(Any.strings_Trim_set lT (by intro w;kernel_rfl) (by kernel_rfl) ⟨l.toArray⟩ ⟨#[48,49,50,51,52,53,54,55,56,57]⟩ w (by decide) (by show 0<l.toArray.size;simpa using h0) (by show l.toArray.size<=_;simp;omega) (by decide) ?_).mono λe w' ⟨h1,q,e'⟩=>⟨h1,?_⟩
 ·intro j b hb;have:∀b∈([48,49,50,51,52,53,54,55,56,57]:List UInt8),b.toNat<128:=by decide
  exact this b (YQ hb)
 ·subst e';have h:=((Ext.rfl' w).alloc (.cells (Lib.setCells [48,49,50,51,52,53,54,55,56,57]) (ren.t 116))).alloc (.cells (Lib.setCells [48,49,50,51,52,53,54,55,56,57]) (ren.t 116));exact⟨h.size,h.old,h.tape,h.os,h.output⟩
theorem ZpI(b:UInt8)(r:List UInt8)(n:Int)(w:World)(hl:r.length<=8)(hp:Lib.trimPrefix (b::r) [45]=b::r)(J4:Lib.hasPrefix (b::r) [45]=false)(ht:Lib.trimS (b::r) [48,49,50,51,52,53,54,55,56,57]=[])(hz:b≠48\/r=[])(hn:Lib.atoi (b::r)=some n):
 Calls Tryp.prog 131 #[str (b::r)] w λe w'=>e= .returned (.tuple #[n,.nilIface])/\Ext w w':=by
 have Hb:=λw=>Zo3 (b::r) [45] w
 rw[hp,J4] at Hb;have N8:=λw=>Zpt (b::r) w (by simp) (by simp;omega)
 rw[ht] at N8;have hat:=λw=>ZqH (b::r) n w (by simp;omega) hn
 go_enter fq Tryz.func131,Tryz.ntmps131
 go_wp2_with (first
  |(go_at_call 158;refine(Hb _).mono ?_;rintro e wr ⟨rfl,rfl⟩)
  |(go_at_call 65;refine(Z09 _ _ _ _).mono ?_;rintro e wr ⟨rfl,rfl⟩)
  |(go_at_call 159;refine(N8 _).mono ?_;rintro e w2 ⟨rfl,A4⟩)
  |(go_at_call 160;refine(hat _).mono ?_;rintro e w3 ⟨rfl,Ah⟩))
 ·go_ret2;exact⟨rfl,A4.trans Ah⟩
 ·exfalso;rename_i h1 _ _ h2;rcases hz with hz|rfl
  ·have h3:((b.toNat:Nat):Int)=48:=h1;exact hz (UInt8.toNat_inj.1 (by show b.toNat=48;omega))
  ·simp at h2
 ·go_ret2;exact⟨rfl,A4.trans Ah⟩
def MaxL(w:World):Prop:=∃m:Int,w.cell? ⟨7,0,none⟩=some (.int .i64 m)
theorem MaxL.ext(h:MaxL w)(e:Ext w w'):MaxL w':=h.imp λ_ h=>e.cellS h
theorem Zqa(l p:List UInt8)(w:World)(hl:l.length<=100000)(hm:MaxL w):Calls Tryp.prog 157 #[str l,str p] w λe w'=>e= .returned (.tuple #[str (Lib.cut l p).1,str (Lib.cut l p).2.1,.bool (Lib.cut l p).2.2])/\Ext w w':=by
 obtain⟨m,hm⟩:=hm;refine(Any.strings_Cut lC ⟨l.toArray⟩ ⟨p.toArray⟩ m w (by show l.toArray.size<_;simp;omega) hm).mono λe w' ⟨h1,q,e'⟩=>⟨h1,?_⟩
 subst e';exact⟨XB _,λ_ _=>rfl,rfl,rfl,rfl⟩
end
end Go.Proofs.Tryp
