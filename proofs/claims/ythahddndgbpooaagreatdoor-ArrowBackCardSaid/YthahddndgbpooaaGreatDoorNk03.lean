import Derived.Test.YthahddndgbpooaaGreatDoorNkA
import Derived.Test.YthahddndgbpooaaGreatDoorNk02
import Derived.RunT
set_option linter.all false
open Go
variable {es es' es1 es2:Array Event}{mn mn':Bool}{as bd:Code}{fn:FuncId}{k':List Item}{Λ:Loop->Prop}{ρ':Nat->Nat}{L':Nat->Prop}{o':Obj}{ro ro':Option Nat}{p s:String}{V V' V'' V1 b w' w'' w1:World}
namespace Go.Nk
open Go
variable [Ban]
def Zf(Gs:Nat->Bool):Operand->Bool
 | .const v=>plainV 3 v
 | .global g=>Gs g
 | .func f=> !Ban.ban f
 |_=>true
def Z4A(P:Program)(t:TypeId):Bool:=match P.underlying t with|some (.slice e)=>Z1v P e|_=>true
def Z96(P:Program)(s:TypeId)(i:Nat):Bool:=
 match P.underlying s with
 |some (.struct fs)=>match fs[i]? with
  |some f=>(P.info? f.type).all (·.size !=0)
  |none=>true
 |_=>true
def Z2W(P:Program)(Gs:Nat->Bool)(c:Call):Bool:=
 c.args.toList.all (Zf Gs)&&match c.callee with
  | .value (.func f)=> !Ban.ban f||c.args.size==Ban.arity f
  | .value f=>Zf Gs f
  | .builtin .append=>ZcK P c.argTypes
  | .builtin .len=>ZcL P c.argTypes
  | .builtin .max| .builtin .min=>true
  |_=>false
def ZJ(P:Program)(Gs:Nat->Bool):Op->Bool
 | .move x| .assign x=>Zf Gs x
 | .pick c a b=>Zf Gs c&&Zf Gs a&&Zf Gs b
 | .alloc e=>Z1v P e
 | .box _ x=>Zf Gs x
 | .build t ps=>Z1v P t&&ps.toList.all (Zf Gs ·.2)
 | .buildSlice t _ ps=>Z4A P t&&ps.toList.all (Zf Gs ·.2)
 | .load _ a=>Zf Gs a
 | .store _ a x=>Zf Gs a&&Zf Gs x
 | .nilCheck x=>Zf Gs x
 | .binOp op t x y _=>ZaY P op t&&Zf Gs x&&Zf Gs y
 | .unOp _ _ x=>Zf Gs x
 | .convert s d x=>Z93 P s d&&Zf Gs x
 | .makeFunc (.func f) first captured=> !Ban.ban f&&first.toList.all (Zf Gs)&&captured.toList.all (Zf Gs)
 | .makeMap _ none=>true
 | .makeSlice t l c=>Z4A P t&&Zf Gs l&&Zf Gs c
 | .slice _ x lo hi none=>Zf Gs x&&lo.all (Zf Gs)&&hi.all (Zf Gs)
 | .fieldAddr s x f=>Z96 P s f&&Zf Gs x
 | .field _ x _=>Zf Gs x
 | .indexAddr _ x i=>Zf Gs x&&Zf Gs i
 | .index _ x i=>Zf Gs x&&Zf Gs i
 | .lookup t x i _=>Z6g P t&&Zf Gs x&&Zf Gs i
 | .mapUpdate t m k x=>Z6g P t&&Zf Gs m&&Zf Gs k&&Zf Gs x
 | .extract x _=>Zf Gs x
 | .call c=>Z2W P Gs c
 |_=>false
def Z6k(fn:Func):Bool:=
 fn.body.isNone&& !(fn.name== "runtime.NumGoroutine")&&(Extern.findNext fn).isNone&&(Extern.find fn).isNone&& !(fn.name.endsWith ".init" && !fn.name.startsWith "(" && !fn.name.startsWith "gosem.")
def Ent(P:Program)(fs:Array Func)(f:FuncId):Prop:=
 ∃fn' fn,fs[f]? =some fn'/\P.funcs[f]? =some fn/\fn'.body.isSome=true/\fn.body.isSome=true/\(fn'.name== "runtime.NumGoroutine")=false/\(fn.name== "runtime.NumGoroutine")=false
def Z3T(P:Program)(fs:Array Func):Prop:=(∀f fn',fs[f]? =some fn'->Z6k fn'=true\/Ent P fs f)/\P.info? 1000000000=none
inductive NRel(P:Program)(fs:Array Func)(Λ:Loop->Prop)(ρ:Nat->Nat)(L:Nat->Prop):Next->Next->Prop
 |value {v v'}:VRel ρ L v v'->NRel P fs Λ ρ L (.value v) (.value v')
 |skip:NRel P fs Λ ρ L .skip .skip
 |enter {f a a'}:Ent P fs f->(Ban.ban f=true->a.size=Ban.arity f)->AR ρ L a a'->NRel P fs Λ ρ L (.enter f a) (.enter f a')
 |round {l t t'} {r:Loop}:L l->AR ρ L t t'->Λ r->NRel P fs Λ ρ L (.round l r.fn t r.assign r.body) (.round (ρ l) r.fn t' r.assign r.body)
section
variable {P:Program}{fs:Array Func}{ρ:Nat->Nat}{L:Nat->Prop}{Gs:Nat->Bool}
variable {α β γ δ σ σ':Type}{A:(Nat->Prop)->α->β->Prop}{B:(Nat->Prop)->γ->δ->Prop}
theorem q_v{X Y:Sem Value}(h:Q P fs Λ P.globals.size ρ L (VR ρ) X Y):Q P fs Λ P.globals.size ρ L (NRel P fs Λ ρ) (do Pure.pure (Next.value (<-X))) (do Pure.pure (Next.value (<-Y))):=h.bind λ_ _ _ _ h=>Q.pure (.value h)
theorem q_u{X Y:Sem Unit}(h:Q P fs Λ P.globals.size ρ L (TT (α:=Unit) (β:=Unit)) X Y):Q P fs Λ P.globals.size ρ L (NRel P fs Λ ρ) (do X;Pure.pure Next.skip) (do Y;Pure.pure Next.skip):=h.bind λ_ _ _ _ _=>Q.pure .skip
theorem Z97(t:TypeId):Q P fs Λ P.globals.size ρ L (VR ρ) (Instr.makeMap t none) (Instr.makeMap t none):=by
 unfold Instr.makeMap;exact λ_ _=> .new (.map .nil) (λ_ h=>by cases h) λr _=> .pure (.map (.inr rfl))
theorem Z2I(hF:Z3T P fs)(f:FuncId){a a':Array Value}(hb:Ban.ban f=true->a.size=Ban.arity f)(ha:AR ρ L a a'):Q P fs Λ P.globals.size ρ L (NRel P fs Λ ρ) (callFunc f a) (callFunc f a'):=by
 unfold callFunc;refine Q.program ?_;show Q P fs Λ P.globals.size ρ L (NRel P fs Λ ρ) (match fs[f]? with|none=>_|some fn=>_) (match P.funcs[f]? with|none=>_|some fn=>_);cases hf:fs[f]? with
 |none=>exact Q.stuck
 |some fn'=>
  rcases hF.1 f fn' hf with h|⟨fn1,fn,h1,h2,h3,h4,h5,h6⟩
  ·simp only[Z6k,YG,XR,QD] at h;obtain⟨⟨⟨⟨Dv,hn⟩,he⟩,Em⟩,hi⟩:=h;dsimp only;rw[XA (by simp[hn]),YZ (by simp[Dv])];simp only[he,Em,hi,YR,XZ];exact λ_ _=> .mark trivial
  ·rw[hf] at h1;cases h1;rw[h2];dsimp only;have h3':fn'.body.isNone=false:=by cases hh:fn'.body with|none=>rw[hh] at h3;cases h3|some _=>rfl
   have h4':fn.body.isNone=false:=by cases hh:fn.body with|none=>rw[hh] at h4;cases h4|some _=>rfl
   rw[XA (by simp[h5]),XA (by simp[h3']),XA (by simp[h6]),XA (by simp[h4'])];exact Q.pure (.enter ⟨_,_,hf,h2,h3,h4,h5,h6⟩ hb ha)
theorem Z1K(l:Nat)(hl:L l):Q P fs Λ P.globals.size ρ L (λL r r'=>LRel ρ L r r'/\Λ r) (Instr.getLoop l) (Instr.getLoop (ρ l)):=by
 unfold Instr.getLoop;intro hK N;refine .getObj hl λL' o o' g hK' ho Gj=> ?_
 cases ho with
 |loop h=>exact .pure ⟨h,Gj _ rfl⟩
 |_=>exact .bad trivial
theorem Z98{ts:List Tmp}:∀{l l':List Value}{t t':Array Value},VsRel ρ L l l'->AR ρ L t t'->
 AR ρ L ((ts.zip l).foldl (λtmps (t,a)=>tmps.setIfInBounds t a) t) ((ts.zip l').foldl (λtmps (t,a)=>tmps.setIfInBounds t a) t'):=by
 induction ts with
 |nil=>intro l l' t t' _ h;simpa using h
 |cons x ts ih=>
  intro l l' t t' h ht;cases h with
  |nil=>simpa using ht
  |cons h1 h2=>simp only[SD,VM];exact ih h2 (ht.set _ h1)
theorem Z99(l:Nat)(hl:L l){a a':Array Value}(ha:AR ρ L a a'):Q P fs Λ P.globals.size ρ L (NRel P fs Λ ρ) (Instr.yield l a) (Instr.yield (ρ l) a'):=by
 unfold Instr.yield;refine(Z1K l hl).bind ?_;rintro r r' L1 g1 ⟨hr,hΛ⟩;refine Q.ite (by rw[<-ha.1,<-hr.params]) (λ_=>Q.bindStuck) (λ_=> ?_);rw[<-hr.fn,<-hr.assign,<-hr.body,<-hr.params];refine Q.pure (.round (g1 _ hl) ?_ hΛ);rw[<-QB,<-QB,Array.toList_zip,Array.toList_zip];exact Z98 (ha.up g1).list hr.tmps
theorem Z9a{e e':Operand->Value}(he:∀o,Zf Gs o=true->VRel ρ L (e o) (e' o)){xs:Array Operand}(h:xs.toList.all (Zf Gs)=true):AR ρ L (xs.map e) (xs.map e'):=
 AR.mk (by simp) λi v v' h1 h2=>by
  simp only[Array.getElem?_map,XT] at h1 h2;obtain⟨o,ho,rfl⟩:=h1;obtain⟨o',ho',rfl⟩:=h2;rw[ho] at ho';cases ho';exact he o (YL.1 h o (SP.2 (Array.mem_of_getElem? ho)))
theorem Zci{e e':Operand->Value}(he:∀o,Zf Gs o=true->VRel ρ L (e o) (e' o)){ps:Array (Nat×Operand)}(h:ps.toList.all (Zf Gs ·.2)=true):
 PsRel ρ L (ps.map fun(i,x)=>(i,e x)).toList (ps.map fun(i,x)=>(i,e' x)).toList:=by
 simp only[Array.toList_map];generalize ps.toList=l at h
 induction l with
 |nil=>exact .nil
 |cons x l ih=>
  simp only[QI,YG] at h;exact .cons (he _ h.1) (ih h.2)
theorem Zcj{e e':Operand->Value}(he:∀o,Zf Gs o=true->VRel ρ L (e o) (e' o)){x:Option Operand}(h:x.all (Zf Gs)=true):OvRel ρ L (x.map e) (x.map e'):=by
 cases x with
 |none=>exact .none
 |some o=>exact .some (he o h)
theorem Z3q(hF:Z3T P fs){g:TypeInfo->Sem γ}{Y:Sem δ}:Q P fs Λ P.globals.size ρ L B (typeInfo 1000000000>>=g) Y:=by
 intro hK N;refine SEqv.programL ?_;show SEqv _ _ _ _ _ _ _ _ (((match (Z6 P fs).info? 1000000000 with|some d=>Pure.pure d|none=>stuck "no such type" :Sem TypeInfo))>>=g) Y;rw[Z3Y,hF.2];exact Q.bindStuck (P:=P) (fs:=fs) hK N
theorem Z9b(hF:Z3T P fs)(n:Nat){g:FuncId×Value->Sem γ}{Y:Sem δ}:Q P fs Λ P.globals.size ρ L B (method n 1000000000 undef "" >>=g) Y:=by
 cases n with
 |zero=>exact Q.bindUnsupported λ_ h=>by cases h
 |succ n=>
  unfold method;rw[bind_assoc];exact Z3q hF
theorem Z6l(hF:Z3T P fs)(n:Nat){g:Option Bool->Sem γ}{Y:Sem δ}(hg:Q P fs Λ P.globals.size ρ L B (g none) Y):Q P fs Λ P.globals.size ρ L B (nilAhead n 1000000000 undef "" >>=g) Y:=by
 cases n with
 |zero=>exact hg
 |succ n=>
  unfold nilAhead;rw[bind_assoc];exact Z3q hF
theorem Z5r(hF:Z3T P fs)(a:Array Value){Y:Sem Next}{B:(Nat->Prop)->Next->Next->Prop}:Q P fs Λ P.globals.size ρ L B (Deferred.ofValue bomb a>>=λd=>invoke d.target d.args) Y:=by
 have e:(#[Value.iface 1000000000 undef]++a)[0]? =some (.iface 1000000000 undef):=by rw[Array.getElem?_append_left (by decide)];rfl
 show Q P fs Λ P.globals.size ρ L B (invoke (.fn (.method "") #[]) (#[.iface 1000000000 undef]++a)) Y;simp only[invoke,e];unfold callMethod;intro hK N;refine SEqv.programL ?_;exact Z9b (P:=P) hF _ hK N
theorem ZdP(hF:Z3T P fs){e e':Operand->Value}(he:∀o,Zf Gs o=true->VRel ρ L (e o) (e' o))(Qw:∀f,e (.func f)= .func (.func f) #[] #[])(Ir:∀f,e' (.func f)= .func (.func f) #[] #[])(c:Call)(t:TypeId)(h:Z2W P Gs c=true):
 Q P fs Λ P.globals.size ρ L (NRel P fs Λ ρ) (do let d<-resolve e c t;invoke d.target d.args) (do let d<-resolve e' c t;invoke d.target d.args):=by
 simp only[Z2W,YG] at h;obtain⟨h1,h2⟩:=h;have ha:=Z9a he h1;unfold resolve;cases hc:c.callee with
 |builtin b=>
  rw[hc] at h2;cases b with
  |append=>exact q_v (Zb3 _ _ h2 ha)
  |len=>exact q_v (q_len _ _ h2 ha)
  |max=>exact q_v (q_max _ _ ha)
  |min=>exact q_v (q_min _ _ ha)
  |_=>simp at h2
 |invoke r n=>rw[hc] at h2;simp at h2
 |value f=>
  rw[hc] at h2;by_cases Qx:∃g,f= .func g
  ·obtain⟨g,rfl⟩:=Qx;dsimp only;rw[Qw,Ir];refine Z2I hF g (λhb=> ?_) ((AR.append .nil ha).append .nil);simp only[UB,XR,XW] at h2;rcases h2 with h2|h2
   ·rw[h2] at hb;cases hb
   ·simpa using h2
  have h2:Zf Gs f=true:=by
   cases f with
   |func g=>exact absurd ⟨g,rfl⟩ Qx
   |_=>exact h2
  have hf:=he f h2;dsimp only;generalize e f=v at hf;generalize e' f=v' at hf;cases hf with
  |func hb a1 a2 c1 c2=>exact Z2I hF _ (λh=>by rw[hb] at h;cases h) ((AR.append ⟨a1,a2⟩ ha).append ⟨c1,c2⟩)
  |yield hl a1 a2 c1 c2=>exact Z99 _ hl (AR.append ⟨a1,a2⟩ ha)
  |nilFunc=>exact Z02 .nilDeref rfl
  |meth _=>exact Z5r hF _
  |_=>exact Q.stuck
theorem Zb6(hF:Z3T P fs){e e':Operand->Value}(he:∀o,Zf Gs o=true->VRel ρ L (e o) (e' o))(Qw:∀f,e (.func f)= .func (.func f) #[] #[])(Ir:∀f,e' (.func f)= .func (.func f) #[] #[])(o:Oper)(ho:ZJ P Gs o.op=true)(Ky:∀t m k x,o.op≠.mapUpdate t m k x):Q P fs Λ P.globals.size ρ L (NRel P fs Λ ρ) (execOp e o) (execOp e' o):=by
 obtain⟨dst,op,type,pos,after,guard⟩:=o;have hso:∀t,Z4A P t=true->∀el,P.underlying t=some (.slice el)->Z1v P el=true:=by
  intro t h el hu;simpa[Z4A,hu] using h
 cases op with
 |move x=>exact Q.pure (.value (he _ ho))
 |assign x=>exact Q.pure (.value (he _ ho))
 |pick c a b=>
  simp only[ZJ,YG] at ho;refine(Z4w (he _ ho.1.1)).bind ?_;rintro t _ L1 g1 rfl;refine Q.pure (.value ?_);cases t
  ·exact(he _ ho.2).up g1
  ·exact(he _ ho.1.2).up g1
 |alloc t=>exact q_v (ZcC t ho)
 |box t x=>exact q_v (q_box t (he _ ho))
 |build t ps=>simp only[ZJ,YG] at ho;exact q_v (ZcD t ho.1 (Zci he ho.2))
 |buildSlice t n ps=>simp only[ZJ,YG] at ho;exact q_v (Z5h t n (hso t ho.1) (Zci he ho.2))
 |load t a=>exact q_v (ZaU t (he _ ho))
 |store t a x=>simp only[ZJ,YG] at ho;exact q_u (Z8T t (he _ ho.1) (he _ ho.2))
 |nilCheck x=>
  have hx:=he _ ho;simp only[execOp];generalize e x=v at hx;generalize e' x=v' at hx;cases hx with
  |nilPtr=>exact Z02 .nilDeref rfl
  |nilIface=>exact Z02 .nilDeref rfl
  |nilFunc=>exact Z02 .nilDeref rfl
  |hole hh hw=>
   have e:execOp (λ_=>v') {dst:=dst,op:= .nilCheck x,type:=type,pos:=pos,after:=after,guard:=guard}=Pure.pure (.value v'):=by
    cases v'<;>first|rfl|(cases hw;done)|(rename_i a;cases a<;>first|rfl|(cases hw;done))|(rename_i a l c;cases a<;>first|rfl|(cases hw;done))
   simp only[execOp] at e;rw[e];exact Q.pure (.value (.hole hh hw))
  |meth hh=>
   intro hK N;refine SEqv.programL ?_;exact Z6l (P:=P) hF _ (Q.bindUnsupported λ_ h=>by cases h) hK N
  |bool b=>exact Q.pure (.value (.bool b))
  |int k n=>exact Q.pure (.value (.int k n))
  |string s=>exact Q.pure (.value (.string s))
  |ptr h=>exact Q.pure (.value (.ptr h))
  |nilSlice l c=>exact Q.pure (.value (.nilSlice l c))
  |slice l c h=>exact Q.pure (.value (.slice l c h))
  |nilMap=>exact Q.pure (.value .nilMap)
  |map h=>exact Q.pure (.value (.map h))
  |nilChan=>exact Q.pure (.value .nilChan)
  |func hb a1 a2 c1 c2=>exact Q.pure (.value (.func hb a1 a2 c1 c2))
  |yield hl a1 a2 c1 c2=>exact Q.pure (.value (.yield hl a1 a2 c1 c2))
  |iface t h=>exact Q.pure (.value (.iface t h))
  |agg h1 h2=>exact Q.pure (.value (.agg h1 h2))
  |tuple h1 h2=>exact Q.pure (.value (.tuple h1 h2))
 |binOp op t x y yt=>
  simp only[ZJ,YG] at ho;refine q_v ?_;refine(Z91 op t x y (he _ ho.1.2) (he _ ho.2)).bind ?_;intro _ _ L1 g1 _;exact ZcJ op t ho.1.1 ((he _ ho.1.2).up g1) ((he _ ho.2).up g1)
 |unOp op t x=>exact q_v (ZcI op (he _ ho))
 |convert s d x=>simp only[ZJ,YG] at ho;exact q_v (Z94 s d ho.1 (he _ ho.2))
 |makeFunc fn a c=>
  cases fn with
  |func f=>
   simp only[ZJ,YG,XR] at ho;have h1:=Z9a he ho.1.2;have h2:=Z9a he ho.2;exact q_v (Q.pure (.func ho.1.1 h1.1 h1.2 h2.1 h2.2))
  |_=>simp[ZJ] at ho
 |makeMap t r=>
  cases r with
  |none=>exact q_v (Z97 t)
  |some _=>simp[ZJ] at ho
 |makeSlice t l c=>simp only[ZJ,YG] at ho;exact q_v (Z6e t (he _ ho.1.2) (he _ ho.2) (hso t ho.1.1))
 |slice t x lo hi mx=>
  cases mx with
  |none=>simp only[ZJ,YG] at ho;exact q_v (Z8W t (he _ ho.1.1) (Zcj he ho.1.2) (Zcj he ho.2))
  |some _=>simp[ZJ] at ho
 |fieldAddr s x f=>
  simp only[ZJ,YG] at ho;refine q_v (Z8U s f (he _ ho.2) ?_);intro fs f' hs hf i hi;have h:=ho.1;simp only[Z96,hs,hf,hi,Option.all_some,bne_iff_ne,ne_eq] at h;exact h
 |field t x f=>exact q_v (ZcE t f (he _ ho))
 |indexAddr t x i=>simp only[ZJ,YG] at ho;exact q_v (Z8V t (he _ ho.1) (he _ ho.2))
 |index t x i=>simp only[ZJ,YG] at ho;exact q_v (ZcG t (he _ ho.1) (he _ ho.2))
 |lookup t x i ok=>simp only[ZJ,YG] at ho;exact q_v (Zb4 t ok ho.1.1 (he _ ho.1.2) (he _ ho.2))
 |mapUpdate t m k x=>exact absurd rfl (Ky t m k x)
 |extract x i=>exact q_v (Z8X i (he _ ho))
 |call c=>exact ZdP hF he Qw Ir c type ho
 |_=>simp[ZJ] at ho
end
end Go.Nk
section
namespace Go
def Result.wld{α:Type}:Result α->World
 | .ok _ w=>w
 | .halt _ w=>w
end Go
namespace Go.Nk
open Go Go.Conc
def retape(t:Nat->Question->Nat)(w:World):World:={w with tape:=t}
def rtR{α:Type}(t:Nat->Question->Nat):Result α->Result α
 | .ok a w=> .ok a (retape t w)
 | .halt h w=> .halt h (retape t w)
def Agr(w w1:World)(t:Nat->Question->Nat):Prop:=∀i,w.drawn<=i->i<w1.drawn->t i=w.tape i
def Fwd(w w1:World):Prop:=w.drawn<=w1.drawn/\w1.tape=w.tape
theorem Fwd.refl(w:World):Fwd w w:=⟨XB _,rfl⟩
theorem Fwd.trans{a b c:World}(h:Fwd a b)(h':Fwd b c):Fwd a c:=⟨XD h.1 h'.1,h'.2.trans h.2⟩
theorem Agr.left{a c:World}{t}(h:Agr a c t)(Pm:Fwd b c):Agr a b t:=λi h1 h2=>h i h1 (YS h2 Pm.1)
theorem Agr.right{a c:World}{t}(h:Agr a c t)(Cy:Fwd a b):Agr b c t:=λi h1 h2=>by rw[Cy.2];exact h i (XD Cy.1 h1) h2
theorem Z9c{α:Type}(P:Program)(X:Sem α):∀(w:World)(es:Array Event)(x:Event),x∈es->x∈(X.runT P w es).2:=by
 induction X with
 |pure a=>exact λw es x h=>h
 |load m a k ih=>
  intro w es x h;simp only[Sem.runT]
  (repeat' split)<;>first|exact ih _ _ _ _ (by simp[h])|exact h
 |store m a v k ih=>
  intro w es x h;cases v<;>simp only[Sem.runT]<;>first|exact h|((repeat' split)<;>first|exact ih _ _ _ (by simp[h])|exact h)
 |new o k ih=>intro w es x h;exact ih _ _ _ _ h
 |shape r k ih=>intro w es x h;exact ih _ _ _ _ h
 |freeze a n k ih=>intro w es x h;exact ih _ _ _ h
 |frozen a k ih=>intro w es x h;exact ih _ _ _ _ h
 |getObj r k ih=>
  intro w es x h;simp only[Sem.runT];split<;>first|exact ih _ _ _ _ (by simp[h])|exact h
 |setObj r o k ih=>
  intro w es x h;simp only[Sem.runT];split<;>first|exact ih _ _ _ (by simp[h])|exact h
 |choose q k ih=>
  intro w es x h;simp only[Sem.runT];split<;>exact ih _ _ _ _ h
 |sys c k ih=>intro w es x h;exact ih _ _ _ _ (by simp[h])
 |program k ih=>intro w es x h;exact ih _ _ _ _ h
 |mark m k ih=>intro w es x h;exact ih _ _ _ (by simp[h])
 |halt h=>exact λw es x h=>h
theorem Z7U(P:Program)(w:World)(a:Addr)(m:Bool)(t):(retape t w).farLoad P a m=w.farLoad P a m:=rfl
theorem ZcN(P:Program)(w:World)(a:Addr)(u:TypeId)(k:Addr)(m:Bool)(t):(retape t w).seen P a u k m=w.seen P a u k m:=rfl
theorem Z3U(P:Program)(w:World)(a:Addr)(u:TypeId)(k:Addr)(v:Value)(m:Bool):
 (∃e,∀t,(retape t w).viewStore P a u k v m= .error e)\/(∃o l,∀t,(retape t w).viewStore P a u k v m= .ok ({retape t w with heap:=w.heap.setIfInBounds a.block o},l)):=by
 unfold World.viewStore;simp only[ZcN,bind,Except.bind,pure,Except.pure];cases htt:tight P P.depth u with
 |false=>simp only[Bool.not_false,XQ];exact .inl ⟨_,λt=>rfl⟩
 |true=>
  simp only[RA,YR,XZ];cases w.seen P a u k m with
  |error e=>exact .inl ⟨_,λt=>rfl⟩
  |ok x=>
   obtain⟨c,e,fz,first,like,cells⟩:=x;dsimp only;cases v.bytes? with
   |none=>exact .inl ⟨_,λt=>rfl⟩
   |some bytes=>
    dsimp only;by_cases h2:some bytes.length≠like.bytes?.map (λx=>x.length)
    ·simp only[YZ h2];exact .inl ⟨_,λt=>rfl⟩
    ·simp only[XA h2];generalize (List.foldlM (m:=Except String) _ c cells)=r;cases r with
     |error e=>exact .inl ⟨_,λt=>rfl⟩
     |ok c'=>exact .inr ⟨_,_,λt=>rfl⟩
theorem Z04(w:World):retape w.tape w=w:=rfl
theorem Z4B(P:Program)(w:World)(a:Addr)(v:Value)(m:Bool):
 (∃e,∀t,(retape t w).farStore P a v m= .error e)\/(∃h l,∀t,(retape t w).farStore P a v m= .ok ({retape t w with heap:=h},l)):=by
 unfold World.farStore;have eh:∀t,(retape t w).heap=w.heap:=λt=>rfl
 simp only[eh];cases hb:w.heap[a.block]? with
 |none=>exact .inl ⟨w.noCell a "store: no such cell",λt=>by simp only[World.noCell,eh,hb]⟩
 |some o=>
  cases o with
  |view at_ u=>
   dsimp only;rcases Z3U P w at_ u a v m with⟨e,h⟩|⟨o,l,h⟩
   ·exact .inl ⟨_,λt=>by rw[h t]⟩
   ·exact .inr ⟨_,_,λt=>by rw[h t]⟩
  |_=>exact .inl ⟨_,λt=>by simp only[World.noCell,eh,hb];rfl⟩
theorem Z43{α:Type}(P:Program)(X:Sem α):∀(w:World)(es:Array Event),(∀x∈(X.runT P w es).2,x.loc≠.output)->
 Fwd w (X.runT P w es).1.wld/\∀t,Agr w (X.runT P w es).1.wld t->X.runT P (retape t w) es=(rtR t (X.runT P w es).1,(X.runT P w es).2):=by
 induction X with
 |pure a=>exact λw es _=>⟨Fwd.refl w,λt _=>rfl⟩
 |load m a k ih=>
  intro w es h;have ec:∀t,(retape t w).cell? a=w.cell? a:=λt=>rfl
  simp only[Sem.runT,ec,Z7U] at h⊢;cases hc:w.cell? a with
  |some v=>simp only[hc] at h⊢;exact ih _ _ _ h
  |none=>
   simp only[hc] at h⊢;cases hf:w.farLoad P a (m== .atomic) with
   |ok r=>obtain⟨v,l⟩:=r;simp only[hf] at h⊢;exact ih _ _ _ h
   |error e=>exact⟨Fwd.refl w,λt _=>rfl⟩
 |store m a v k ih=>
  intro w es h;have ec:∀t,(retape t w).cell? a=w.cell? a:=λt=>rfl
  have ef:∀t,(retape t w).frozen? a=w.frozen? a:=λt=>rfl
  have key:(∀x∈((match w.cell? a with
   |some _=>if w.frozen? a then(Result.halt (.unsupported (.unsafePointer "a write to bytes that a string shares")) w,es) else k.runT P (w.setCell a v) (es.push ⟨.cell a,true,m== .atomic⟩)
   |none=>match w.farStore P a v (m== .atomic) with
    | .ok (w,touched)=>k.runT P w (es++touched.toArray.map (⟨.cell ·,true,m== .atomic⟩))
    | .error h=>(.halt h w,es)):Result α×Array Event).2,x.loc≠.output)->
   Fwd w ((match w.cell? a with
    |some _=>if w.frozen? a then(Result.halt (.unsupported (.unsafePointer "a write to bytes that a string shares")) w,es) else k.runT P (w.setCell a v) (es.push ⟨.cell a,true,m== .atomic⟩)
    |none=>match w.farStore P a v (m== .atomic) with
     | .ok (w,touched)=>k.runT P w (es++touched.toArray.map (⟨.cell ·,true,m== .atomic⟩))
     | .error h=>(.halt h w,es)):Result α×Array Event).1.wld/\∀t,Agr w ((match w.cell? a with
    |some _=>if w.frozen? a then(Result.halt (.unsupported (.unsafePointer "a write to bytes that a string shares")) w,es) else k.runT P (w.setCell a v) (es.push ⟨.cell a,true,m== .atomic⟩)
    |none=>match w.farStore P a v (m== .atomic) with
     | .ok (w,touched)=>k.runT P w (es++touched.toArray.map (⟨.cell ·,true,m== .atomic⟩))
     | .error h=>(.halt h w,es)):Result α×Array Event).1.wld t->
    (match (retape t w).cell? a with
    |some _=>if(retape t w).frozen? a then(Result.halt (.unsupported (.unsafePointer "a write to bytes that a string shares")) (retape t w),es) else k.runT P ((retape t w).setCell a v) (es.push ⟨.cell a,true,m== .atomic⟩)
    |none=>match (retape t w).farStore P a v (m== .atomic) with
     | .ok (w,touched)=>k.runT P w (es++touched.toArray.map (⟨.cell ·,true,m== .atomic⟩))
     | .error h=>(.halt h (retape t w),es))=(rtR t ((match w.cell? a with
    |some _=>if w.frozen? a then(Result.halt (.unsupported (.unsafePointer "a write to bytes that a string shares")) w,es) else k.runT P (w.setCell a v) (es.push ⟨.cell a,true,m== .atomic⟩)
    |none=>match w.farStore P a v (m== .atomic) with
     | .ok (w,touched)=>k.runT P w (es++touched.toArray.map (⟨.cell ·,true,m== .atomic⟩))
     | .error h=>(.halt h w,es)):Result α×Array Event).1,((match w.cell? a with
    |some _=>if w.frozen? a then(Result.halt (.unsupported (.unsafePointer "a write to bytes that a string shares")) w,es) else k.runT P (w.setCell a v) (es.push ⟨.cell a,true,m== .atomic⟩)
    |none=>match w.farStore P a v (m== .atomic) with
     | .ok (w,touched)=>k.runT P w (es++touched.toArray.map (⟨.cell ·,true,m== .atomic⟩))
     | .error h=>(.halt h w,es)):Result α×Array Event).2):=by
   simp only[ec,ef];cases hc:w.cell? a with
   |some v0=>
    dsimp only;by_cases hz:w.frozen? a=true
    ·simp only[hz,XQ];exact λ_=>⟨Fwd.refl w,λt _=>rfl⟩
    ·simp only[hz,XZ,YR];exact λh=>ih (w.setCell a v) _ h
   |none=>
    dsimp only;rcases Z4B P w a v (m== .atomic) with⟨e,hf⟩|⟨hp,l,hf⟩
    ·have h0:=hf w.tape;rw[Z04] at h0;simp only[hf,h0];exact λ_=>⟨Fwd.refl w,λt _=>rfl⟩
    ·have h0:=hf w.tape;rw[Z04] at h0;simp only[hf,h0];exact λh=>ih {w with heap:=hp} _ h
  cases v<;>simp only[Sem.runT] at h⊢<;>first|exact⟨Fwd.refl w,λt _=>rfl⟩|exact key h
 |new o k ih=>intro w es h;exact ih w.heap.size {w with heap:=w.heap.push o} es h
 |shape r k ih=>intro w es h;exact ih _ _ _ h
 |freeze a n k ih=>
  intro w es h;have e:∀t,(retape t w).freeze a n=retape t (w.freeze a n):=λt=>by unfold World.freeze;split<;>rfl
  have e2:Fwd w (w.freeze a n):=by unfold World.freeze;split<;>exact Fwd.refl _
  have e3:(w.freeze a n).drawn=w.drawn:=by unfold World.freeze;split<;>rfl
  obtain⟨h1,h2⟩:=ih (w.freeze a n) es h;refine⟨e2.trans h1,λt ht=> ?_⟩;show(k.runT P ((retape t w).freeze a n) es)=_;rw[e];exact h2 t (ht.right e2)
 |frozen a k ih=>intro w es h;exact ih _ _ _ h
 |getObj r k ih=>
  intro w es h;have eh:∀t,(retape t w).heap=w.heap:=λt=>rfl
  simp only[Sem.runT,eh] at h⊢;cases ho:w.heap[r]? with
  |none=>exact⟨Fwd.refl w,λt _=>rfl⟩
  |some o=>rw[ho] at h;cases o<;>first|exact⟨Fwd.refl w,λt _=>rfl⟩|exact ih _ _ _ h
 |setObj r o k ih=>
  intro w es h;have eh:∀t,(retape t w).heap=w.heap:=λt=>rfl
  simp only[Sem.runT,eh] at h⊢;cases ho:w.heap[r]? with
  |none=>exact⟨Fwd.refl w,λt _=>rfl⟩
  |some o'=>rw[ho] at h;cases o'<;>first|exact⟨Fwd.refl w,λt _=>rfl⟩|exact ih {w with heap:=w.heap.setIfInBounds r o} _ h
 |choose q k ih=>
  intro w es h;simp only[Sem.runT] at h⊢;by_cases hq:q.forced=true
  ·simp only[hq,XQ] at h⊢;exact ih _ _ _ h
  ·simp only[hq,XZ,YR] at h⊢;have h0:Fwd w {w with drawn:=w.drawn+1}:=⟨Nat.le_succ _,rfl⟩;obtain⟨h1,h2⟩:=ih _ {w with drawn:=w.drawn+1} es h;refine⟨h0.trans h1,λt ht=> ?_⟩;have e:t w.drawn=w.tape w.drawn:=ht _ (XB _) (YS (Nat.lt_succ_self _) h1.1);show(k (q.cut (t w.drawn q))).runT P {retape t w with drawn:=w.drawn+1} es=_;rw[e];exact h2 t (ht.right h0)
 |sys c k ih=>
  intro w es h;exact absurd rfl (h ⟨.output,true,false⟩ (Z9c P (k (w.sys c).1) (w.sys c).2 (es.push ⟨.output,true,false⟩) _ (by simp)))
 |program k ih=>intro w es h;exact ih _ _ _ h
 |mark m k ih=>intro w es h;exact ih _ _ h
 |halt h=>exact λw es _=>⟨Fwd.refl w,λt _=>rfl⟩
end Go.Nk
end
namespace Go.Nk
open Go Go.Conc
variable [Ban]
def Zn(P:Program)(Gs:Nat->Bool):Code->Bool
 | .skip| .exit _| .label _| .ret=>true
 | .region _ ops _=>ops.toList.all (ZJ P Gs ·.op)
 | .seq a b=>Zn P Gs a&&Zn P Gs b
 | .cond c a b=>Zf Gs c&&Zn P Gs a&&Zn P Gs b
 | .block _ c=>Zn P Gs c
 | .loop c=>Zn P Gs c
 | .scope c=>Zn P Gs c
 | .rangeFunc f _ a b=>Zf Gs f&&Zn P Gs a&&Zn P Gs b
 |_=>false
def Tm(P:Program)(fs:Array Func)(Gs:Nat->Bool)(f:FuncId):Prop:=
 ∃fn c,fs[f]? =some fn/\P.funcs[f]? =some fn/\fn.body=some c/\Zn P Gs c=true
def ZE(P:Program)(fs:Array Func)(Gs:Nat->Bool)(r:Loop):Prop:=Tm P fs Gs r.fn/\Zn P Gs r.assign=true/\Zn P Gs r.body=true/\∀c,r.pending=some c->Zn P Gs c=true
section
variable (P:Program)(fs:Array Func)(Gs:Nat->Bool)(ρ:Nat->Nat)(L:Nat->Prop)
inductive IRel:Item->Item->Prop
 |code {c}:Zn P Gs c=true->IRel (.code c) (.code c)
 |inBlock (id):IRel (.inBlock id) (.inBlock id)
 |inLoop {c}:Zn P Gs c=true->IRel (.inLoop c) (.inLoop c)
 |inScope {c}:Zn P Gs c=true->IRel (.inScope c) (.inScope c)
 |inRegion {ops:Array Oper} {todo}:ops.toList.all (ZJ P Gs ·.op)=true->IRel (.inRegion ops todo) (.inRegion ops todo)
 |inRangeFunc {l}:L l->IRel (.inRangeFunc l) (.inRangeFunc (ρ l))
 |endRangeFunc {l}:L l->IRel (.endRangeFunc l) (.endRangeFunc (ρ l))
 |beginRound:IRel .beginRound .beginRound
inductive ItsR:List Item->List Item->Prop
 |nil:ItsR [] []
 |cons {i i' is is'}:IRel P Gs ρ L i i'->ItsR is is'->ItsR (i::is) (i'::is')
inductive RoR:Option Nat->Option Nat->Prop
 |none:RoR none none
 |some {l}:L l->RoR (some l) (some (ρ l))
structure FrR(fr fr':Frame):Prop where
 fn:fr'.fn=fr.fn
 tm:Tm P fs Gs fr.fn
 tmps:AR ρ L fr.tmps fr'.tmps
 todo:ItsR P Gs ρ L fr.todo fr'.todo
 defers:DsRel ρ L fr.defers fr'.defers
 mode:fr'.mode=fr.mode/\(fr.mode= .run\/fr.mode= .returning)
 kind:fr.kind= .normal/\fr'.kind= .normal
 round:RoR ρ L fr.roundOf fr'.roundOf
inductive CsR(bot bot':List Frame):List Frame->List Frame->Prop
 |nil:CsR bot bot' bot bot'
 |cons {f f' cs cs'}:FrR P fs Gs ρ L f f'->(cs=bot->f.roundOf=none)->CsR bot bot' cs cs'->CsR bot bot' (f::cs) (f'::cs')
inductive Top:Frame->Frame->Prop
 |own {fr fr'}:FrR P fs Gs ρ L fr fr'->Top fr fr'
 |other {f a a'}:¬Tm P fs Gs f->Ent P fs f->(Ban.ban f=true->a.size=Ban.arity f)->AR ρ L a a'->Top (Frame.enter (Z6 P fs) f a .normal) (Frame.enter P f a' .normal)
end
structure Foot0(ρ:Nat->Nat)(Fz:Nat->Prop)(V w V' w':World)(new:Array Event):Prop where
 live:∀b,Live V b->Live V' b
 newly:∀b,Live V' b->Live V b\/V.heap.size<=b
 vsize:V.heap.size<=V'.heap.size
 size:w.heap.size<=w'.heap.size
 stay:∀r,r<w.heap.size->(∀b,Live V b->¬Fz b->ρ b≠r)->w'.heap[r]? =w.heap[r]?
 evs:∀e∈new,EvOk ρ Fz V' e
 tape:w'.tape=w.tape
 os:w'.os=w.os
 output:w'.output=w.output
 drawn:w.drawn<=w'.drawn
 dark:∀a x,Live V a.block->V'.cell? a=some x->big x=true->V.cell? a=some x/\w'.cell? (Zl ρ a)=w.cell? (Zl ρ a)
section
variable {P:Program}{fs:Array Func}{Gs:Nat->Bool}{ρ:Nat->Nat}{L:Nat->Prop}{Fz:Nat->Prop}{w:World}
theorem Foot.foot0(h:Foot ρ Fz V w V' w' es):Foot0 ρ Fz V w V' w' es:=⟨h.live,h.newly,h.vsize,h.size,h.stay,h.evs,h.tape,h.os,h.output,h.drawn,h.dark⟩
theorem Foot0.sub(h:Foot0 ρ Fz V w V' w' es)(hs:∀e∈es',e∈es):Foot0 ρ Fz V w V' w' es':=⟨h.live,h.newly,h.vsize,h.size,h.stay,λe he=>h.evs e (hs e he),h.tape,h.os,h.output,h.drawn,h.dark⟩
theorem Foot0.refl(V w:World):Foot0 ρ Fz V w V w #[]:=(Foot.refl V w).foot0
theorem Foot0.trans(hn:∀j,ρ (V.heap.size+j)=w.heap.size+j)(h:Foot0 ρ Fz V w V' w' es)(h':Foot0 ρ Fz V' w' V'' w'' es'):Foot0 ρ Fz V w V'' w'' (es++es'):=by
 refine⟨λb hb=>h'.live b (h.live b hb),λb hb=> ?_,XD h.vsize h'.vsize,XD h.size h'.size,λr hr hs=> ?_,λe he=> ?_,h'.tape.trans h.tape,h'.os.trans h.os,h'.output.trans h.output,XD h.drawn h'.drawn,λa x hl hx hb=> ?_⟩
 ·rcases h'.newly b hb with hb|hb
  ·exact h.newly b hb
  ·exact .inr (XD h.vsize hb)
 ·rw[h'.stay r (YS hr h.size) λb hb hf he=> ?_,h.stay r hr hs];rcases h.newly b hb with hb|hb
  ·exact hs b hb hf he
  ·have:=hn (b - V.heap.size);rw[Nat.add_sub_cancel' hb] at this;omega
 ·rcases UL.1 he with he|he
  ·exact(h.evs e he).mono h'.live
  ·exact h'.evs e he
 ·obtain⟨h1,h2⟩:=h'.dark a x (h.live _ hl) hx hb;obtain⟨h3,h4⟩:=h.dark a x hl h1 hb;exact⟨h3,h2.trans h4⟩
theorem IRel.mono{a b:Item}(h:IRel P Gs ρ L a b)(hL:∀b,L b->L' b/\ρ' b=ρ b):IRel P Gs ρ' L' a b:=by
 cases h with
 |code h=>exact .code h
 |inBlock id=>exact .inBlock id
 |inLoop h=>exact .inLoop h
 |inScope h=>exact .inScope h
 |inRegion h=>exact .inRegion h
 |inRangeFunc h=>rw[<-(hL _ h).2];exact .inRangeFunc (hL _ h).1
 |endRangeFunc h=>rw[<-(hL _ h).2];exact .endRangeFunc (hL _ h).1
 |beginRound=>exact .beginRound
theorem ItsR.mono{a b:List Item}(h:ItsR P Gs ρ L a b)(hL:∀b,L b->L' b/\ρ' b=ρ b):ItsR P Gs ρ' L' a b:=by
 induction h with
 |nil=>exact .nil
 |cons h _ ih=>exact .cons (h.mono hL) ih
theorem RoR.mono{a b:Option Nat}(h:RoR ρ L a b)(hL:∀b,L b->L' b/\ρ' b=ρ b):RoR ρ' L' a b:=by
 cases h with
 |none=>exact .none
 |some h=>rw[<-(hL _ h).2];exact .some (hL _ h).1
theorem FrR.mono{a b:Frame}(h:FrR P fs Gs ρ L a b)(hL:∀b,L b->L' b/\ρ' b=ρ b):FrR P fs Gs ρ' L' a b:=
 ⟨h.fn,h.tm,h.tmps.mono hL,h.todo.mono hL,h.defers.mono hL,h.mode,h.kind,h.round.mono hL⟩
theorem CsR.mono{bot bot' a b:List Frame}(h:CsR P fs Gs ρ L bot bot' a b)(hL:∀b,L b->L' b/\ρ' b=ρ b):CsR P fs Gs ρ' L' bot bot' a b:=by
 induction h with
 |nil=>exact .nil
 |cons h hb _ ih=>exact .cons (h.mono hL) hb ih
theorem CsR.length{bot bot' a b:List Frame}(h:CsR P fs Gs ρ L bot bot' a b):bot.length<=a.length:=by
 induction h with
 |nil=>exact XB _
 |cons _ _ _ ih=>exact Nat.le_succ_of_le ih
theorem FrR.up{a b:Frame}(h:FrR P fs Gs ρ L a b)(hL:∀b,L b->L' b):FrR P fs Gs ρ L' a b:=h.mono λb hb=>⟨hL b hb,rfl⟩
theorem CsR.up{bot bot' a b:List Frame}(h:CsR P fs Gs ρ L bot bot' a b)(hL:∀b,L b->L' b):CsR P fs Gs ρ L' bot bot' a b:=h.mono λb hb=>⟨hL b hb,rfl⟩
theorem ItsR.up{a b:List Item}(h:ItsR P Gs ρ L a b)(hL:∀b,L b->L' b):ItsR P Gs ρ L' a b:=h.mono λb hb=>⟨hL b hb,rfl⟩
theorem DsRel.up{a b:List Deferred}(h:DsRel ρ L a b)(hL:∀b,L b->L' b):DsRel ρ L' a b:=h.mono λb hb=>⟨hL b hb,rfl⟩
theorem FrR.todoTo{fr fr':Frame}(h:FrR P fs Gs ρ L fr fr'){k k':List Item}(hk:ItsR P Gs ρ L k k'):FrR P fs Gs ρ L {fr with todo:=k} {fr' with todo:=k'}:=
 ⟨h.fn,h.tm,h.tmps,hk,h.defers,h.mode,h.kind,h.round⟩
theorem FrR.eval{fr fr':Frame}(h:FrR P fs Gs ρ L fr fr')(hG:∀g,Gs g=true->L g/\ρ g=g)(o:Operand)(ho:Zf Gs o=true):VRel ρ L (fr.eval o) (fr'.eval o):=by
 cases o with
 |tmp t=>exact h.tmps.at t
 |const v=>exact VRel.plain ho
 |global g=>
  have:=VRel.ptr (ρ:=ρ) (L:=L) (a:=⟨g,0,none⟩) (hG g ho).1;have e:Zl ρ ⟨g,0,none⟩=⟨g,0,none⟩:=by simp[Zl,(hG g ho).2]
  rw[e] at this;exact this
 |func f=>exact .func (by simpa[Zf] using ho) rfl (λi hi=>absurd hi (by simp)) rfl (λi hi=>absurd hi (by simp))
theorem FrR.finish{fr fr':Frame}(h:FrR P fs Gs ρ L fr fr'){v v':Value}(hv:VRel ρ L v v'):FrR P fs Gs ρ L (fr.finish v) (fr'.finish v'):=by
 obtain⟨fn,tmps,todo,defers,mode,kind,ro⟩:=fr;obtain⟨fn',tmps',todo',defers',mode',kind',ro'⟩:=fr';have ht:=h.todo;simp only at ht;cases ht with
 |nil=>exact h
 |cons hi hk=>
  cases hi with
  |inRegion ho=>
   rename_i todo;cases todo with
   |nil=>exact h
   |cons i rest=>
    simp only[Frame.finish];refine⟨h.fn,h.tm,?_,.cons (.inRegion ho) hk,h.defers,h.mode,h.kind,h.round⟩;dsimp only;split
    ·exact h.tmps.set _ hv
    ·exact h.tmps
  |inRangeFunc hl=>exact⟨h.fn,h.tm,h.tmps,.cons (.endRangeFunc hl) hk,h.defers,h.mode,h.kind,h.round⟩
  |beginRound=>exact⟨h.fn,h.tm,h.tmps,hk,h.defers,h.mode,h.kind,h.round⟩
  |_=>exact h
theorem FrR.enter{f:FuncId}{a a':Array Value}(hf:Tm P fs Gs f)(ha:AR ρ L a a'):FrR P fs Gs ρ L (Frame.enter (Z6 P fs) f a .normal) (Frame.enter P f a' .normal):=by
 obtain⟨fn,c,h1,h2,h3,h4⟩:=hf;have e1:(Z6 P fs).funcs[f]? =some fn:=h1;refine⟨rfl,⟨fn,c,h1,h2,h3,h4⟩,?_,?_,.nil,⟨rfl,.inl rfl⟩,⟨rfl,rfl⟩,.none⟩
 ·simp only[Frame.enter,e1,h2];rw[<-ha.1];exact ha.append (AR.replicate _ .undef)
 ·simp only[Frame.enter,e1,h2,SQ,h3,VX];exact .cons (.code h4) .nil
theorem FrR.roundFr{l:Nat}{r:Loop}{t t':Array Value}(hl:L l)(ht:AR ρ L t t')(hr:ZE P fs Gs r):FrR P fs Gs ρ L (Frame.round l r.fn t r.assign r.body .normal) (Frame.round (ρ l) r.fn t' r.assign r.body .normal):=
 ⟨rfl,hr.1,ht,.cons (.code hr.2.1) (.cons .beginRound (.cons (.code hr.2.2.1) .nil)),.nil,⟨rfl,.inl rfl⟩,⟨rfl,rfl⟩,.some hl⟩
end
theorem Z2m(p:Program)(fn:FuncId)(es:Array Event):∀e∈seen p fn es,e∈es:=by
 unfold seen;dsimp only;rw[<-QB]
 have key:∀(l:List Event)(init:Bool×Array Event)(S:Event->Prop),(∀e∈init.2,S e)->(∀e∈l,S e)->
  ∀e∈(l.foldl (fun(x:Bool×Array Event) e=>match e.loc with
   | .mark (.extern f)=>((p.funcs[f]?).any (·.norace),x.2)
   |_=>(x.1,if x.1&& !e.sync then x.2 else x.2.push e)) init).2,S e:=by
  intro l
  induction l with
  |nil=>exact λinit S h _=>h
  |cons x l ih=>
   intro init S h1 h2;simp only[VM];refine ih _ S ?_ (λe he=>h2 e (YW _ he));intro e he;have hp:∀e∈(if init.1&& !x.sync then init.2 else init.2.push x),S e:=by
    intro e he;split at he
    ·exact h1 e he
    ·rcases Array.mem_push.1 he with he|rfl
     ·exact h1 e he
     ·exact h2 _ YY
   split at he
   ·exact h1 e he
   ·exact hp e he
 intro e he;exact key es.toList _ (·∈es) (by simp) (λe he=>by simpa using he) e he
section
variable (P:Program)(fs:Array Func)(Gs:Nat->Bool)(ρ:Nat->Nat)(Fz:Nat->Prop)(bot bot':List Frame)
def Lk(V w:World)(s:GStep)(S':(Nat->Question->Nat)->GStep):Prop:=
 ∃fr1 cs1 V1 es1 fr1' cs1' w1 es2,s= .go (G fr1 cs1) V1 es1/\(Fwd w w1/\∀t,Agr w w1 t->S' t= .go (G fr1' cs1') (retape t w1) es2)/\(Top P fs Gs ρ (Live V1) fr1 fr1'/\(cs1=bot->FrR P fs Gs ρ (Live V1) fr1 fr1'))/\CsR P fs Gs ρ (Live V1) bot bot' cs1 cs1'/\(cs1=bot->fr1.roundOf=none)/\
  Sim0 ρ P.globals.size Fz V1 w1/\LoopsOk (ZE P fs Gs) V1/\Foot0 ρ Fz V w V1 w1 es2
def Bd(V w:World)(fn:FuncId)(cs cs':List Frame)(s:GStep)(S':(Nat->Question->Nat)->GStep):Prop:=
 (∃o V1 es,s= .ended o V1 es/\∀v,o≠.done v)\/
 ∃fr1 V1 es1 fr1' w1 es2,s= .go (G fr1 cs) V1 es1/\S' w.tape= .go (G fr1' cs') w1 es2/\(∃c,fr1.mode= .panicking c)/\fr1.fn=fn/\DsRel ρ (Live V1) fr1.defers fr1'.defers/\
  Sim0 ρ P.globals.size Fz V1 w1/\LoopsOk (ZE P fs Gs) V1/\∀b,Live V b->Live V1 b
end
section
variable {P:Program}{fs:Array Func}{Gs:Nat->Bool}{ρ:Nat->Nat}{L:Nat->Prop}{Fz:Nat->Prop}{w:World}{bot bot':List Frame}
theorem Z2X{L:Nat->Prop}{fr fr':Frame}{C:Prop}(h:FrR P fs Gs ρ L fr fr'):Top P fs Gs ρ L fr fr'/\(C->FrR P fs Gs ρ L fr fr'):=⟨.own h,λ_=>h⟩
theorem Z37{cs cs':List Frame}{o:Outcome}{S':(Nat->Question->Nat)->GStep}(h:∀v,o≠.done v):Bd P fs Gs ρ Fz V w fn cs cs' (.ended o V1 es) S':= .inl ⟨_,_,_,rfl,h⟩
theorem Z0o{cs cs':List Frame}{S':(Nat->Question->Nat)->GStep}:Bd P fs Gs ρ Fz V w fn cs cs' (.ended (.stuck s p) V1 es) S':=Z37 (λv h=>by cases h)
theorem Z44{e:Event}(h:EvOk ρ Fz V e):e.loc≠.output:=by
 rcases h with⟨a,wr,rfl,_⟩|⟨r,wr,rfl,_⟩|rfl<;>simp
def Both0{α β:Type}(Λ:Loop->Prop)(ρ:Nat->Nat)(G:Nat)(Fz:Nat->Prop)(A:(Nat->Prop)->α->β->Prop)(V w:World)(x:Result α)(y:Result β×Array Event):Prop:=
 (∃h V1,x= .halt h V1/\Bad h)\/
 ∃V' w' new,Sim0 ρ G Fz V' w'/\LoopsOk Λ V'/\Foot ρ Fz V w V' w' new/\
  ((∃a b L,x= .ok a V'/\y=(.ok b w',new)/\(∀b,L b->Live V' b)/\A L a b)\/(∃v v',x= .halt (.panic v) V'/\y=(.halt (.panic v') w',new)/\VRel ρ (Live V') v v'))
def Lax(P:Program)(fs:Array Func)(Gs:Nat->Bool)(ρ:Nat->Nat)(Fz:Nat->Prop)(V w:World){α β:Type}(A:(Nat->Prop)->α->β->Prop)(X:Sem α)(Y:Sem β):Prop:=
    (∃h V1 es,X.runT (Z6 P fs) V #[]=(.halt h V1,es)/\Bad h)\/
    ∃V1 w1 new es,Sim0 ρ P.globals.size Fz V1 w1/\LoopsOk (ZE P fs Gs) V1/\Foot ρ Fz V w V1 w1 new/\
     ((∃a b L1,X.runT (Z6 P fs) V #[]=(.ok a V1,es)/\(Fwd w w1/\∀t,Agr w w1 t->Y.runT P (retape t w) #[]=(.ok b (retape t w1),new))/\(∀b,L1 b->Live V1 b)/\A L1 a b)\/
      (∃v v',X.runT (Z6 P fs) V #[]=(.halt (.panic v) V1,es)/\Y.runT P w #[]=(.halt (.panic v') w1,new)/\VRel ρ (Live V1) v v'))
theorem Zck{α β:Type}{A:(Nat->Prop)->α->β->Prop}{X:Sem α}{Y:Sem β}(run:Both0 (ZE P fs Gs) ρ P.globals.size Fz A V w (X.run (Z6 P fs) V) (Y.runT P w #[])):Lax P fs Gs ρ Fz V w A X Y:=by
 have Ev:=Sem.runT_fst (Z6 P fs) X V #[];unfold Lax;rcases hx:X.runT (Z6 P fs) V #[] with⟨r,es⟩;rw[hx] at Ev;have Wn:X.run (Z6 P fs) V=r:=Ev.symm;rw[Wn] at run;rcases run with⟨h,V1,rfl,hb⟩|⟨V1,w1,new,Bi,hΛ1,hF,⟨a,b,L1,rfl,hY,C8,Cy⟩|⟨v,v',rfl,hY,hv⟩⟩
 ·exact .inl ⟨h,V1,es,rfl,hb⟩
 ·have hl:=Z43 P Y w #[] (λx hx=>by rw[hY] at hx;exact Z44 (hF.evs x hx));rw[hY] at hl;exact .inr ⟨V1,w1,new,es,Bi,hΛ1,hF,.inl ⟨a,b,L1,rfl,⟨hl.1,hl.2⟩,C8,Cy⟩⟩
 ·exact .inr ⟨V1,w1,new,es,Bi,hΛ1,hF,.inr ⟨v,v',rfl,hY,hv⟩⟩
theorem lax{α β:Type}{A:(Nat->Prop)->α->β->Prop}{X:Sem α}{Y:Sem β}(hq:Q P fs (ZE P fs Gs) P.globals.size ρ (Live V) A X Y)(hS:Sim ρ P.globals.size Fz V w)(hΛ:LoopsOk (ZE P fs Gs) V):Lax P fs Gs ρ Fz V w A X Y:=by
 have run:=(hq hS.good (λ_=>False)).run V w #[] hS hΛ (λ_ h=>h) (λ_ h=>h.elim);have Bn:∀new:Array Event,(#[]:Array Event)++new=new:=by simp
 refine Zck ?_;rcases run with⟨h,V1,hx,hb⟩|⟨V1,w1,new,Bi,hΛ1,hF,⟨a,b,L1,hx,hY,C8,Cy⟩|⟨v,v',hx,hY,hv⟩⟩
 ·exact .inl ⟨h,V1,hx,hb⟩
 ·rw[Bn] at hY;exact .inr ⟨V1,w1,new,Bi.toSim0,hΛ1,hF,.inl ⟨a,b,L1,hx,hY,C8,Cy⟩⟩
 ·rw[Bn] at hY;exact .inr ⟨V1,w1,new,Bi.toSim0,hΛ1,hF,.inr ⟨v,v',hx,hY,hv⟩⟩
theorem ZcO{α β:Type}{A:(Nat->Prop)->α->β->Prop}{X:Sem α}{Y:Sem β}(hq:Q P fs (ZE P fs Gs) P.globals.size ρ (Live V) A X Y)(hS:Sim ρ P.globals.size Fz V w)(hΛ:LoopsOk (ZE P fs Gs) V):
 (∃h V1 es,X.runT (Z6 P fs) V #[]=(.halt h V1,es)/\Bad h)\/
 ∃V1 w1 new es,Sim ρ P.globals.size Fz V1 w1/\LoopsOk (ZE P fs Gs) V1/\Foot ρ Fz V w V1 w1 new/\
  ((∃a b L1,X.runT (Z6 P fs) V #[]=(.ok a V1,es)/\(Fwd w w1/\∀t,Agr w w1 t->Y.runT P (retape t w) #[]=(.ok b (retape t w1),new))/\(∀b,L1 b->Live V1 b)/\A L1 a b)\/
   (∃v v',X.runT (Z6 P fs) V #[]=(.halt (.panic v) V1,es)/\Y.runT P w #[]=(.halt (.panic v') w1,new)/\VRel ρ (Live V1) v v')):=by
 have run:=(hq hS.good (λ_=>False)).run V w #[] hS hΛ (λ_ h=>h) (λ_ h=>h.elim);have Ev:=Sem.runT_fst (Z6 P fs) X V #[];rcases hx:X.runT (Z6 P fs) V #[] with⟨r,es⟩;rw[hx] at Ev;have Wn:X.run (Z6 P fs) V=r:=Ev.symm;rw[Wn] at run;have Bn:∀new:Array Event,(#[]:Array Event)++new=new:=by simp
 rcases run with⟨h,V1,rfl,hb⟩|⟨V1,w1,new,Bi,hΛ1,hF,⟨a,b,L1,rfl,hY,C8,Cy⟩|⟨v,v',rfl,hY,hv⟩⟩
 ·exact .inl ⟨h,V1,es,rfl,hb⟩
 ·rw[Bn] at hY;have hl:=Z43 P Y w #[] (λx hx=>by rw[hY] at hx;exact Z44 (hF.evs x hx));rw[hY] at hl;exact .inr ⟨V1,w1,new,es,Bi,hΛ1,hF,.inl ⟨a,b,L1,rfl,⟨hl.1,hl.2⟩,C8,Cy⟩⟩
 ·rw[Bn] at hY;exact .inr ⟨V1,w1,new,es,Bi,hΛ1,hF,.inr ⟨v,v',rfl,hY,hv⟩⟩
theorem kindN{k:List Item}(h:ItsR P Gs ρ L k k'):(match k with| .call _ true _ _::_=>CallKind.wrapped|_=> .normal)= .normal/\(match k' with| .call _ true _ _::_=>CallKind.wrapped|_=> .normal)= .normal:=by
 cases h with
 |nil=>exact⟨rfl,rfl⟩
 |cons h _=>cases h<;>exact⟨rfl,rfl⟩
theorem Z0w(fr:Frame)(v:Value):(fr.finish v).roundOf=fr.roundOf:=by
 unfold Frame.finish;split<;>rfl
theorem Z0W(fr:Frame)(c:List PanicEntry):∃c',(fr.raise c).mode= .panicking c':=by
 unfold Frame.raise;split<;>exact⟨_,rfl⟩
theorem Z38(fr:Frame)(c:List PanicEntry):(fr.raise c).fn=fr.fn:=by unfold Frame.raise;split<;>rfl
theorem Z0x(fr:Frame)(c:List PanicEntry):(fr.raise c).defers=fr.defers:=by unfold Frame.raise;split<;>rfl
theorem Z45{X Y:Sem Next}(hq:Lax P fs Gs ρ Fz V w (NRel P fs (ZE P fs Gs) ρ) X Y)
 {fr fr':Frame}{cs cs':List Frame}(hf:FrR P fs Gs ρ (Live V) fr fr')(hc:CsR P fs Gs ρ (Live V) bot bot' cs cs')(hb:cs=bot->fr.roundOf=none):
 Bd P fs Gs ρ Fz V w fr.fn cs cs' (stepG.apply (Z6 P fs) true fr cs none X V) (λt=>stepG.apply P true fr' cs' none Y (retape t w))\/Lk P fs Gs ρ Fz bot bot' V w (stepG.apply (Z6 P fs) true fr cs none X V) (λt=>stepG.apply P true fr' cs' none Y (retape t w)):=by
 obtain⟨k1,k2⟩:=kindN hf.todo;have Hv:(fr.kind==CallKind.early)=false:=by rw[hf.kind.1];rfl
 have Kz:(fr'.kind==CallKind.early)=false:=by rw[hf.kind.2];rfl
 rcases hq with⟨h,V1,es,hx,hb⟩|⟨V1,w1,new,es,Bi,hΛ1,hF,⟨a,b,L1,hx,hY,C8,Cy⟩|⟨v,v',hx,hY,hv⟩⟩
 ·left
  cases h with
  |stuck s=>simp only[stepG.apply,XQ,hx,k1];exact Z0o
  |unsupported u=>
   cases u with
   |initOrder _=>exact hb.elim
   |_=>simp only[stepG.apply,XQ,hx,k1];exact Z37 (λv h=>by cases h)
  |_=>exact hb.elim
 ·right
  have D8:=hf.up hF.live;have Ew:=hc.up hF.live;have Ed:∀e∈seen P fr'.fn new++ #[],e∈new:=λe he=>Z2m P _ _ e (by simpa using he)
  cases Cy with
  |value hv=>
   refine⟨_,_,_,_,_,_,_,_,by simp only[stepG.apply,XQ,hx,k1,Hv,YR,XZ];rfl,⟨hY.1,λt ht=>by simp only[stepG.apply,XQ,hY.2 t ht,k2,Kz,YR,XZ];rfl⟩,
    Z2X (D8.finish (hv.up C8)),Ew,λe=>(Z0w fr _).trans (hb e),Bi,hΛ1,hF.foot0.sub Ed⟩
  |skip=>
   refine⟨_,_,_,_,_,_,_,_,by simp only[stepG.apply,XQ,hx,k1,Hv,YR,XZ];rfl,⟨hY.1,λt ht=>by simp only[stepG.apply,XQ,hY.2 t ht,k2,Kz,YR,XZ];rfl⟩,
    Z2X (D8.finish .undef),Ew,λe=>(Z0w fr _).trans (hb e),Bi,hΛ1,hF.foot0.sub Ed⟩
  | @enter f a a' he Pn ha=>
    have ht:Top P fs Gs ρ (Live V1) (Frame.enter (Z6 P fs) f a .normal) (Frame.enter P f a' .normal):=by
     by_cases ht:Tm P fs Gs f
     ·exact .own (.enter ht (ha.up C8))
     ·exact .other ht he Pn (ha.up C8)
    have e1:stepG.apply (Z6 P fs) true fr cs none X V= .go (G (Frame.enter (Z6 P fs) f a .normal) (fr::cs)) V1 (seen (Z6 P fs) fr.fn es++ #[]):=by
     simp only[stepG.apply,XQ,hx,Hv,YR,XZ];have hk:=hf.todo;cases Az:fr.todo with
     |nil=>rfl
     |cons i k=>
      rw[Az] at hk;generalize fr'.todo=k' at hk;cases hk with
      |cons hi _=>cases hi<;>rfl
    have e2:∀t,Agr w w1 t->stepG.apply P true fr' cs' none Y (retape t w)= .go (G (Frame.enter P f a' .normal) (fr'::cs')) (retape t w1) (seen P fr'.fn new++ #[]):=by
     intro t ht;simp only[stepG.apply,XQ,hY.2 t ht,Kz,YR,XZ];have hk:=hf.todo;cases Az:fr'.todo with
     |nil=>rfl
     |cons i k=>
      rw[Az] at hk;generalize fr.todo=k' at hk;cases hk with
      |cons hi _=>cases hi<;>rfl
    exact⟨_,_,_,_,_,_,_,_,e1,⟨hY.1,e2⟩,⟨ht,λe=>by exfalso;have:=hc.length;rw[<-e] at this;simp at this;omega⟩,.cons D8 hb Ew,λ_=>rfl,Bi,hΛ1,hF.foot0.sub Ed⟩
  |round hl ht hr=>
   refine⟨_,_,_,_,_,_,_,_,by simp only[stepG.apply,XQ,hx,k1,Hv,YR,XZ];rfl,⟨hY.1,λt ht=>by simp only[stepG.apply,XQ,hY.2 t ht,k2,Kz,YR,XZ];rfl⟩,
    Z2X (.roundFr (C8 _ hl) (ht.up C8) hr),.cons D8 hb Ew,λe=>by have:=hc.length;rw[<-e] at this;simp at this;omega,Bi,hΛ1,hF.foot0.sub Ed⟩
 ·left;right
  have Nn:=hF.live
  refine⟨fr.raise [{v,recovered:=false}],V1,_,fr'.raise [{v:=v',recovered:=false}],w1,_,by simp only[stepG.apply,XQ,hx,k1];rfl,by
   have hY:Sem.runT P Y (retape w.tape w) #[]=(Result.halt (Halt.panic v') w1,new):=hY;simp only[stepG.apply,XQ,hY,k2];rfl,Z0W _ _,Z38 _ _,?_,Bi,hΛ1,Nn⟩
  rw[Z0x,Z0x];exact hf.defers.up Nn
theorem Z7V{k:List Item}(h:ItsR P Gs ρ L k k')(id:Nat):(exitTo id k=none/\exitTo id k'=none)\/∃r r',exitTo id k=some r/\exitTo id k'=some r'/\ItsR P Gs ρ L r r':=by
 induction h with
 |nil=>exact .inl ⟨rfl,rfl⟩
 | @cons i i' is is' hi hk ih=>
   cases hi with
   |inBlock id'=>
    simp only[exitTo];split
    ·exact .inr ⟨_,_,rfl,rfl,hk⟩
    ·exact ih
   |_=>exact ih
theorem Z6m{t t':Array Value}(h:AR ρ L t t')(ops:Array Oper):yielded ops t'=yielded ops t:=by
 funext j;unfold yielded;cases (ops[j]?).bind (·.dst) with
 |none=>rfl
 |some d=>
  simp only[SQ];cases hd:t[d]? with
  |none=>rw[h.getNone hd]
  |some v=>
   obtain⟨v',hv',hr⟩:=h.get hd;rw[hv'];cases hr with
   |hole _ hw=>cases v'<;>first|rfl|(cases hw;done)
   |_=>rfl
end
section
variable {P:Program}{fs:Array Func}{Gs:Nat->Bool}{ρ:Nat->Nat}{L:Nat->Prop}
theorem Z7c{o:Obj}(ho:ORel ρ L true o o')(hn:∀l,o= .loop l->ZE P fs Gs l):Q P fs (ZE P fs Gs) P.globals.size ρ L (λL a b=>b=ρ a/\L a) (newObj o) (newObj o'):=
 λ_ _=> .new ho hn λ_ _=> .pure ⟨rfl,.inr rfl⟩
theorem Z6n{t t':Array Value}{ps:Array Tmp}(ht:AR ρ L t t')(Kf:RoR ρ L ro ro')(hT:Tm P fs Gs fn)(h1:Zn P Gs as=true)(h2:Zn P Gs bd=true):
 Q P fs (ZE P fs Gs) P.globals.size ρ L (λL (x y:Nat×List Deferred)=>y.1=ρ x.1/\L x.1/\DsRel ρ L x.2 y.2) (Instr.enterLoop fn t ps as bd ro) (Instr.enterLoop fn t' ps as bd ro'):=by
 have jp:∀(L1:Nat->Prop)(d d':Nat)(mk mk':List Deferred),(∀b,L b->L1 b)->d'=ρ d->L1 d->DsRel ρ L1 mk mk'->
  Q P fs (ZE P fs Gs) P.globals.size ρ L1 (λL (x y:Nat×List Deferred)=>y.1=ρ x.1/\L x.1/\DsRel ρ L x.2 y.2)
    (do pure (<-newObj (.loop {state:= .ready,pending:=none,fn,tmps:=t,params:=ps,assign:=as,body:=bd,defers:=d}),mk))
    (do pure (<-newObj (.loop {state:= .ready,pending:=none,fn,tmps:=t',params:=ps,assign:=as,body:=bd,defers:=d'}),mk')):=by
  intro L1 d d' mk mk' g1 e hl hm;refine(Z7c (.loop (l:=⟨.ready,none,fn,t,ps,as,bd,d⟩) (l':=⟨.ready,none,fn,t',ps,as,bd,d'⟩) ⟨rfl,rfl,rfl,ht.up g1,rfl,rfl,rfl,hl,e⟩) ?_).bind ?_
  ·rintro l h;cases h;exact⟨hT,h1,h2,λc h=>by cases h⟩
  ·rintro a _ L2 g2 ⟨rfl,ha⟩;exact Q.pure ⟨rfl,ha,hm.up g2⟩
 unfold Instr.enterLoop;cases Kf with
 |none=>
  refine(Z7c .deferred (λl h=>by cases h)).bind ?_;rintro a _ L1 g1 ⟨rfl,h⟩;exact jp L1 a _ _ _ g1 rfl h (.cons h .nil)
 | @some l hl=>
   refine(Z1K l hl).bind ?_;rintro r r' L1 g1 ⟨hr,_⟩;exact jp L1 r.defers _ _ _ g1 hr.defers.2 hr.defers.1 .nil
theorem Z5s{l:Nat}(hl:L l):Q P fs (ZE P fs Gs) P.globals.size ρ L (TT (α:=Unit) (β:=Unit)) (Instr.beginRound l) (Instr.beginRound (ρ l)):=by
 unfold Instr.beginRound;refine(Z1K l hl).bind ?_;rintro r r' L1 g1 ⟨hr,hΛ⟩;refine(Z4z l (g1 _ hl) (.loop (l:={r with state:= .busy}) (l':={r' with state:= .busy}) ⟨rfl,hr.pending,hr.fn,hr.tmps,hr.params,hr.assign,hr.body,hr.defers⟩) (λ_ h=>by cases h;exact hΛ) (λ_ _ _ h=>by cases h)).bind ?_;rintro _ _ L2 g2 _;rw[<-hr.state];cases r.state with
 |ready=>exact Q.pure trivial
 |_=>exact Z02 _ rfl
theorem Z7W{l:Nat}(hl:L l){j:Option Code}(hj:∀c,j=some c->Zn P Gs c=true):Q P fs (ZE P fs Gs) P.globals.size ρ L (VR ρ) (Instr.endRound l j) (Instr.endRound (ρ l) j):=by
 unfold Instr.endRound;refine(Z1K l hl).bind ?_;rintro r r' L1 g1 ⟨hr,hΛ⟩;refine(Z4z l (g1 _ hl) (.loop (l:={r with state:=if j.isNone then .ready else .done,pending:=j}) (l':={r' with state:=if j.isNone then .ready else .done,pending:=j}) ⟨rfl,rfl,hr.fn,hr.tmps,hr.params,hr.assign,hr.body,hr.defers⟩) (λ_ h=>by cases h;exact⟨hΛ.1,hΛ.2.1,hΛ.2.2.1,hj⟩) (λ_ _ _ h=>by cases h)).bind ?_;rintro _ _ L2 g2 _;exact Q.pure (.bool _)
theorem Z9d{l:Nat}(hl:L l):Q P fs (ZE P fs Gs) P.globals.size ρ L (λ_ (x y:Option Code)=>y=x/\∀c,x=some c->Zn P Gs c=true) (Instr.endLoop l) (Instr.endLoop (ρ l)):=by
 unfold Instr.endLoop;refine(Z1K l hl).bind ?_;rintro r r' L1 g1 ⟨hr,hΛ⟩;rw[<-hr.state,<-hr.pending];refine Q.ite (UO) (λ_=>Z5j rfl) (λ_=> ?_);refine(Z4z l (g1 _ hl) (.loop (l:={r with state:= .exhausted}) (l':={r' with state:= .exhausted,pending:=r.pending}) ⟨rfl,rfl,hr.fn,hr.tmps,hr.params,hr.assign,hr.body,hr.defers⟩) (λ_ h=>by cases h;exact hΛ) (λ_ _ _ h=>by cases h)).bind ?_;rintro _ _ L3 g3 _;exact Q.pure ⟨rfl,hΛ.2.2.2⟩
theorem Z1f{b:Nat}(hb:L b):Q P fs (ZE P fs Gs) P.globals.size ρ L (DsRel ρ) (Instr.takeDeferred b) (Instr.takeDeferred (ρ b)):=by
 unfold Instr.takeDeferred;intro hK N;refine .getObj hb λL' o o' g hK' ho Gj=> ?_
 cases ho with
 |deferred=>exact .setObj (g _ hb) .noDefers (λ_ h=>by cases h) (λ_ _ _ h=>by cases h) (.pure .nil)
 |_=>exact .bad trivial
theorem Z9e(rs:List ResultVar):∀(L:Nat->Prop){t t':Array Value},AR ρ L t t'->Q P fs (ZE P fs Gs) P.globals.size ρ L (λL=>VsRel ρ L)
 (rs.mapM fun
   | .tmp t1=>pure (t.getD t1 undef)
   | .cell a ty=>do loadVar ty (<-asAddr (t.getD a undef)))
 (rs.mapM fun
   | .tmp t1=>pure (t'.getD t1 undef)
   | .cell a ty=>do loadVar ty (<-asAddr (t'.getD a undef))):=by
 induction rs with
 |nil=>intro L t t' _;simp only[List.mapM_nil];exact Q.pure .nil
 |cons r rs ih=>
  intro L t t' ht;simp only[List.mapM_cons];refine Q.bind (A:=VR ρ) ?_ ?_
  ·cases r with
   |tmp i=>exact Q.pure (ht.at i)
   |cell a ty=>
    refine(Z73 (ht.at a)).bind ?_;rintro x _ L1 g1 ⟨rfl,hx⟩;exact Z5f ty x hx
  ·intro v v' L1 g1 hv;refine(ih L1 (ht.up g1)).bind ?_;intro vs vs' L2 g2 En;exact Q.pure (.cons (hv.up g2) En)
theorem Z9f(fn:Func){t t':Array Value}(ht:AR ρ L t t'):Q P fs (ZE P fs Gs) P.globals.size ρ L (VR ρ) (results fn t) (results fn t'):=by
 unfold results;refine Q.bind (A:=AR ρ) ?_ ?_
 ·rw[SY,SY];refine Q.bind (A:=λL=>VsRel ρ L) (Z9e fn.results.toList L ht) ?_;intro vs vs' L1 g1 En;refine Q.pure (AR.mk ?_ ?_)
  ·clear g1;simp only[VZ];induction En<;>simp_all
  ·intro i v v' h1 h2;simp only[YC] at h1 h2;clear g1
   induction En generalizing i with
   |nil=>simp at h1
   |cons h _ ih=>
    cases i with
    |zero=>simp at h1 h2;subst h1;subst h2;exact h
    |succ i=>simp at h1 h2;exact ih i h1 h2
 ·intro vs vs' L1 g1 h;by_cases hs:vs.size=1
  ·have hs':vs'.size=1:=h.1▸hs;rw[dif_pos hs,dif_pos hs'];have:=h.2 0 (by omega);rw[Z0u (by omega),Z0u (by omega)] at this;exact Q.pure this
  ·have hs':¬vs'.size=1:=h.1▸hs;rw[dif_neg hs,dif_neg hs'];exact Q.pure (.tuple h.1 h.2)
end
section
variable {P:Program}{fs:Array Func}{Gs:Nat->Bool}{ρ:Nat->Nat}{L:Nat->Prop}{Fz:Nat->Prop}{w:World}{bot bot':List Frame}
theorem Z3r(hS:Sim ρ P.globals.size Fz V w)(hΛ:LoopsOk (ZE P fs Gs) V){fr fr':Frame}{cs cs':List Frame}{es:Array Event}(ht:FrR P fs Gs ρ (Live V) fr fr')(hc:CsR P fs Gs ρ (Live V) bot bot' cs cs')(hb:cs=bot->fr.roundOf=none):
 Lk P fs Gs ρ Fz bot bot' V w (.go (G fr cs) V es) (λt=> .go (G fr' cs') (retape t w) #[]):=⟨_,_,_,_,_,_,_,_,rfl,⟨Fwd.refl w,λ_ _=>rfl⟩,Z2X ht,hc,hb,hS.toSim0,hΛ,Foot0.refl V w⟩
theorem Z46:∀e∈seen P fn es++ #[],e∈es:=λe he=>Z2m P _ _ e (by simpa using he)
theorem Z5t{fr fr':Frame}{cs cs':List Frame}{v v':Value}(Bi:Sim0 ρ P.globals.size Fz V1 w1)(hΛ1:LoopsOk (ZE P fs Gs) V1)(hF:Foot0 ρ Fz V w V1 w1 es2)(hw:Fwd w w1){S':(Nat->Question->Nat)->GStep}(hS':∀t,Agr w w1 t->S' t=GStep.after es2 (doReturn P mn' fr' cs' none v' (retape t w1)))
 (hk:fr.kind= .normal/\fr'.kind= .normal)(hc:CsR P fs Gs ρ (Live V1) bot bot' cs cs')(A9:cs≠bot)(hv:VRel ρ (Live V1) v v'):
 Lk P fs Gs ρ Fz bot bot' V w (GStep.after es1 (doReturn (Z6 P fs) mn fr cs none v V1)) S':=by
 cases hc with
 |nil=>exact absurd rfl A9
 |cons hf hb hc=>
  simp only[doReturn,hk.1,hk.2,GStep.after] at hS'⊢;exact⟨_,_,_,_,_,_,_,_,rfl,⟨hw,hS'⟩,Z2X (hf.finish hv),hc,λe=>(Z0w _ _).trans (hb e),Bi,hΛ1,hF.sub (by simp)⟩
def Z2n(p:Program)(main:Bool)(fr:Frame)(cs:List Frame)(j:Option Code)(w:World):GStep:=
 match fr.roundOf with
 |none=>if j matches none|some .ret then .go (G {fr with mode:= .returning} cs) w else .ended (.stuck "exit, goto: no such block or label" (fr.pos p)) w
 |some l=>
  let (r,es):=(Instr.endRound l j).runT p w #[]
  GStep.after (seen p fr.fn es) <| match r with
  | .ok v w=>doReturn p main fr cs none v w
  | .halt _ w=> .ended (.stuck "range over a function: no such loop" (fr.pos p)) w
theorem ZcP{x:Option Nat}(h:RoR ρ L none x):x=none:=by cases h;rfl
theorem Z9g{l:Nat}{x:Option Nat}(h:RoR ρ L (some l) x):L l/\x=some (ρ l):=by cases h with|some h=>exact⟨h,rfl⟩
theorem Z7X{fr fr':Frame}{cs cs':List Frame}(hS:Sim ρ P.globals.size Fz V w)(hΛ:LoopsOk (ZE P fs Gs) V)(hf:FrR P fs Gs ρ (Live V) fr fr')(hc:CsR P fs Gs ρ (Live V) bot bot' cs cs')(hb:cs=bot->fr.roundOf=none)
 (j:Option Code)(hj:∀c,j=some c->Zn P Gs c=true):
 Bd P fs Gs ρ Fz V w fr.fn cs cs' (Z2n (Z6 P fs) mn fr cs j V) (λt=>Z2n P mn' fr' cs' j (retape t w))\/Lk P fs Gs ρ Fz bot bot' V w (Z2n (Z6 P fs) mn fr cs j V) (λt=>Z2n P mn' fr' cs' j (retape t w)):=by
 have Kf:=hf.round;cases h1:fr.roundOf with
 |none=>
  rw[h1] at Kf;have h2:=ZcP Kf;unfold Z2n;rw[h1,h2];dsimp only;clear hj;generalize (match j with|none=>true|some Code.ret=>true|_=>false)=t;cases t with
  |true=>
   right
   simp only[XQ];exact Z3r hS hΛ ⟨hf.fn,hf.tm,hf.tmps,hf.todo,hf.defers,⟨rfl,.inr rfl⟩,hf.kind,.none⟩ hc (λ_=>rfl)
  |false=>left;simp only[YR,XZ];exact Z0o
 |some l=>
  rw[h1] at Kf;obtain⟨hl,h2⟩:=Z9g Kf;unfold Z2n;rw[h1,h2];dsimp only;rcases ZcO (Z7W (fs:=fs) (P:=P) (Gs:=Gs) (ρ:=ρ) hl hj) hS hΛ with⟨h,V1,es,hx,_⟩|⟨V1,w1,new,es,Bi,hΛ1,hF,⟨v,v',L1,hx,hy,C8,hv⟩|⟨v,v',hx,_⟩⟩
  ·left;simp only[hx,GStep.after];exact Z0o
  ·right
   simp only[hx];have A9:cs≠bot:=λe=>by have:=hb e;rw[h1] at this;cases this
   exact Z5t (mn':=mn') (es2:=seen P fr'.fn new) Bi.toSim0 hΛ1 (hF.foot0.sub λe he=>Z2m P _ _ e he) hy.1 (λt ht=>by simp only[hy.2 t ht]) hf.kind (hc.up hF.live) A9 (hv.up C8)
  ·left;simp only[hx,GStep.after];exact Z0o
end
end Go.Nk
