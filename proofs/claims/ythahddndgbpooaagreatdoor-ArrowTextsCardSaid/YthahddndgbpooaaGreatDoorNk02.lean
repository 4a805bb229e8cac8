import Derived.Test.YthahddndgbpooaaGreatDoorNk01
set_option linter.all false
open Go
open Bool renaming true->I,false->ND
open Go renaming Value->J,Program->U,Frame->NN,World->NL,TypeId->NT,FuncId->NS,undef->NQ,execOp->NU,Addr->NP
open Option renaming none->Z,some->NA
variable {es es' es1 es2:Array Event}{mn mn':Bool}{s:ByteArray}{as bd:Code}{fn:NS}{k':List Item}{Λ:Loop->Prop}{ρ':Nat->Nat}{L':Nat->Prop}{o':Obj}{ro ro':Option Nat}{p:String}{V V' V'' V1 b w' w'' w1:NL}
namespace Go.Nk
open Go
variable [Ban]
def Je(P:U):Nat->NT->Bool
 |0,_=>ND
 |n+1,t=>match P.underlying t with
  |some .bool|some (.int _)|some .string=>I
  |some (.array _ e)=>Je P n e
  |_=>ND
def P6(P:U)(t:NT):Bool:=
 match P.underlying t with
 |some (.map k e)=>Je P 5 k&&W1 P Op.maxDepth k&&Ui P e
 |_=>I
section
variable {P:U}{fs:Array Func}{ρ:Nat->Nat}{L:Nat->Prop}
variable {α β γ δ σ σ':Type}{A:(Nat->Prop)->α->β->Prop}{B:(Nat->Prop)->γ->δ->Prop}
def da(a:Bool):∀(n m:Nat)(L:Nat->Prop)(t:NT){v c:J},Je P m t=I->VRel ρ L v c->Q P fs Λ P.globals.size ρ L (TT (α:=Unit) (β:=Unit)) (Instr.checkKey a n t v) (Instr.checkKey a n t c):=by
 intro n
 induction n with
 |zero=>exact λm L t v c _ _=>Q.unsupported OD
 |succ n F=>
  intro m L t v c f g;unfold Instr.checkKey;refine(Za t).bind ?_;rintro d _ _ E ⟨rfl,h⟩;cases m with
  |zero=>simp[Je]at f
  |succ m=>
   simp only[Je,h]at f;have g:=g.up E;cases d with
   |array _ e=>
    cases g with
    | @agg _ _ z j=>
      dsimp only;rw[VY,VY];refine Q.bind (A:=EQ) (LK EQ _ _ _ _ ?_ _ _ rfl) λ_ _ _ _ _=>Q.pure trivial
      rintro i hi _ s _ y rfl;refine(WH e).bind ?_;rintro _ _ u H rfl;refine(Tn e (AR.up (L':=u) ⟨z,j⟩ λb o=>H b (y b o)) _).bind ?_;intro p _ x _ C;refine(F m x e f C).bind ?_;intro _ _ _ _ _;exact Q.pure (.yield rfl)
    |_=>exact Q.stuck
   |bool|string=>exact Q.pure trivial
   |int _=>exact Q.pure trivial
   |_=>simp at f
def pH(d:TypeDesc){k k' e c:J}(f:VRel ρ L k k')(g:VRel ρ L e c):Instr.sameNow d k' c=Instr.sameNow d k e:=by
 cases d with
 |int _|string|bool=>
  cases f with
  |int _ _|string _|bool _=>cases g with
   |hole _ a=>cases c<;>first|rfl|(cases a;done)
   |_=>rfl
  |hole _ a=>cases k'<;>first|rfl|(cases a;done)
  |_=>rfl
 |_=>rfl
inductive FR(ρ:Nat->Nat)(L:Nat->Prop):Option (Nat×J)->Option (Nat×J)->Prop
 |none:FR ρ L Z Z
 |some {i v v'}:VRel ρ L v v'->FR ρ L (NA (i,v)) (NA (i,v'))
def ERel.up{L':Nat->Prop}{a b}(h:ERel ρ L a b)(c:∀b,L b->L' b):ERel ρ L' a b:=⟨h.key.up c,h.val.up c,h.born⟩
def EsRel.up{L':Nat->Prop}{a b}(h:EsRel ρ L a b)(d:∀b,L b->L' b):EsRel ρ L' a b:=by
 induction h with|nil=>exact .nil|cons h _ c=>exact .cons (h.up d) c
def im(d:TypeDesc){k k':J}(f:VRel ρ L k k'):∀{es es':List MapEntry}(i:Nat),EsRel ρ L es es'->
 (Instr.findNow d k es i=Z/\Instr.findNow d k' es' i=Z)\/∃a b,Instr.findNow d k es i=NA a/\Instr.findNow d k' es' i=NA b/\FR ρ L a b:=by
 intro es
 induction es with
 |nil=>intro es' i h;cases h;exact .inr ⟨_,_,rfl,rfl,.none⟩
 |cons e es g=>
  intro es' i h;cases h with
  | @cons _ _ _ es' c j=>
    simp only[Instr.findNow];rw[pH d f c.key];cases Instr.sameNow d k e.key with|none=>exact .inl ⟨rfl,rfl⟩|some b=>cases b with|true=>exact .inr ⟨_,_,rfl,rfl,.some c.val⟩|false=>exact g _ j
def qp(t:NT)(m:W1 P Op.maxDepth t=I):∀{es es':List MapEntry}(i:Nat)(L:Nat->Prop){k k':J},VRel ρ L k k'->EsRel ρ L es es'->
 Q P fs Λ P.globals.size ρ L (FR ρ) (Instr.findAsking t k es i) (Instr.findAsking t k' es' i):=by
 intro es
 induction es with
 |nil=>intro es' i L k k' a h;cases h;exact Q.pure .none
 |cons e es f=>
  intro es' i L k k' a h;cases h with
  | @cons _ _ _ es' d g=>
    simp only[Instr.findAsking];refine(bQ t m a d.key).bind ?_;rintro b _ j c rfl;exact Q.ite UZ (λ_=>Q.pure (.some (d.val.up c))) (λ_=>f _ j (a.up c) (g.up c))
def dQ(t:NT)(g:W1 P Op.maxDepth t=I){es es':List MapEntry}{k k':J}(e:VRel ρ L k k')(h:EsRel ρ L es es'):
 Q P fs Λ P.globals.size ρ L (FR ρ) (Instr.findKey t k es) (Instr.findKey t k' es'):=by
 unfold Instr.findKey;refine(Za t).bind ?_;rintro d _ f c ⟨rfl,_⟩;rcases im d (e.up c) 0 (h.up c)with⟨e1,e2⟩|⟨a,b,e1,e2,i⟩
 .rw[e1,e2];exact qp t g 0 f (e.up c) (h.up c)
 .rw[e1,e2];exact Q.pure i
def pV(t:NT)(c:Bool){x F k k':J}(C:P6 P t=I)(n:VRel ρ L x F)(i:VRel ρ L k k'):Q P fs Λ P.globals.size ρ L (VR ρ) (Instr.lookup t x k c) (Instr.lookup t F k' c):=by
 unfold Instr.lookup;refine(Za t).bind ?_;rintro d _ X K ⟨rfl,O⟩;cases d with
 |map a j=>
  simp only[P6,O,YG]at C;obtain⟨⟨J5,Y⟩,u⟩:=C;have n:=n.up K;have i:=i.up K
  have f:∀{L':Nat->Prop}(es es':Array MapEntry),(∀b,X b->L' b)->EsRel ρ L' es.toList es'.toList->Q P fs Λ P.globals.size ρ L' (VR ρ) (do
   Instr.checkKey es.isEmpty 10000 a k
   let (v,o)<-match<-Instr.findKey a k es.toList with
    |some (_,v)=>Pure.pure (v,I)
    |none=>Pure.pure (<-zeroValue j,ND)
   Pure.pure (if c then .tuple #[v,.bool o]else v)) (do
   Instr.checkKey es'.isEmpty 10000 a k'
   let (v,o)<-match<-Instr.findKey a k' es'.toList with
    |some (_,v)=>Pure.pure (v,I)
    |none=>Pure.pure (<-zeroValue j,ND)
   Pure.pure (if c then .tuple #[v,.bool o]else v)):=by
   intro L' es es' g h;have e:es'.isEmpty=es.isEmpty:=by
    have:=h.length;simp only[RH]at this;simp[Array.isEmpty,this]
   rw[e];refine(da _ 10000 5 L' a J5 (i.up g)).bind ?_;intro _ _ _ E _;refine(dQ a Y ((i.up g).up E) (h.up E)).bind ?_;intro r _ _ _ m;cases m with
   |some M=>
    refine Q.pure ?_;cases c
    .exact M
    .have:=(AR.one M).push (.bool I);exact .tuple this.1 this.2
   |none=>
    refine(MH j u).bind ?_;intro z _ _ _ H;refine Q.pure ?_;cases c
    .exact H
    .have:=(AR.one H).push (.bool ND);exact .tuple this.1 this.2
  cases n with
  |nilMap=>exact f #[] #[] (λ_ h=>h) .nil
  | @map r m=>
    intro _ N;refine .getObj m λL' o o' T y W _=> ?_
    cases W with|map h=>exact f _ _ T h y N|_=>exact .bad trivial
  |_=>exact Q.stuck
 |_=>exact Q.stuck
def gU(M:Good ρ P.globals.size L):∀(n:Nat){x d y c:J},VRel ρ L x d->VRel ρ L y c->Instr.sameBits n x y=I->Instr.sameBits n d c=I:=by
 intro n
 induction n with
 |zero=>
  intro x d y c C z h;cases C<;>cases z<;>first|exact h|(simp[Instr.sameBits,Go.undef]at h;done)|skip
  rename_i a F b g;simp only[Instr.sameBits,XU,XM]at h⊢;rw[h]
 |succ n H=>
  intro x d y c C z h;cases C<;>cases z<;>first|exact h|(simp[Instr.sameBits,Go.undef]at h;done)|skip
  .rename_i a F b g;simp only[Instr.sameBits,XU,XM]at h⊢;rw[h]
  .rename_i t v v' hv u w w' hw;simp only[Instr.sameBits,YG,XU]at h⊢;exact⟨h.1,H hv hw h.2⟩
  .rename_i a a' h1 h2 b b' k1 k2;simp only[Instr.sameBits,YG,XU]at h⊢;refine⟨by rw[<-h1,<-k1];exact h.1,?_⟩;have o:∀{l f m e:List J},VsRel ρ L l f->VsRel ρ L m e->(l.zip m).all (fun(x,y)=>Instr.sameBits n x y)=I->(f.zip e).all (fun(x,y)=>Instr.sameBits n x y)=I:=by
    intro l
    induction l with
    |nil=>intro f m e h _ _;cases h;rfl
    |cons a l j=>
     intro f m e h E i;cases h with
     |cons F K=>
      cases E with
      |nil=>rfl
      |cons g E=>
       simp only[SR,QZ,YG]at i⊢;exact⟨H F g i.1,j K E i.2⟩
   exact o (AR.list ⟨h1,h2⟩) (AR.list ⟨k1,k2⟩) h.2
def bN{t:ByteArray}(h:(s==t)=I):s=t:=by
 obtain⟨s⟩:=s;obtain⟨t⟩:=t;have:(s==t)=I:=h;rw[eq_of_beq this]
def sameBits_eq:∀(n:Nat){x y:J},Instr.sameBits n x y=I->x=y:=by
 intro n
 induction n with
 |zero=>intro x y h;cases x<;>cases y<;>first|simp[Instr.sameBits]at h;done|exact RJ Value.string (bN h)|(simp only[Instr.sameBits,YG,XU]at h;grind)
 |succ n g=>
  intro x y h;cases x<;>cases y<;>first|simp[Instr.sameBits]at h;done|skip
  case agg.agg a b=>
   simp only[Instr.sameBits,YG,XU]at h;have d:∀{l m:List J},l.length=m.length->(l.zip m).all (fun(x,y)=>Instr.sameBits n x y)=I->l=m:=by
    intro l
    induction l with
    |nil=>intro m c _;cases m with|nil=>rfl|cons _ _=>simp at c
    |cons a l f=>
     intro m c e;cases m with
     |nil=>simp at c
     |cons b m=>
      simp only[SR,QZ,YG]at e;rw[g e.1,f (by simpa using c) e.2]
   have:=d (by simpa using h.1) h.2;rw[Array.toList_inj.1 this]
  case iface.iface t v u w=>
   simp only[Instr.sameBits,YG,XU]at h;rw[h.1,g h.2]
  all_goals first|exact RJ Value.string (bN h)|(simp only[Instr.sameBits,YG,XU]at h;grind)
def bJ(p:U)(a k:J)(V:NL):∃c d,(Instr.keyThatStays a k).run p V= .ok c {V with drawn:=V.drawn+d}/\(∀es,(Instr.keyThatStays a k).runT p V es=(.ok c {V with drawn:=V.drawn+d},es))/\
 ((Instr.sameBits 10000 a k=I/\c=k)\/(Instr.sameBits 10000 a k=ND/\c=if(Question.extern "map.whichKeyStays" 2).cut (V.tape V.drawn (.extern "map.whichKeyStays" 2))=0 then k else a)):=by
 unfold Instr.keyThatStays;cases h:Instr.sameBits 10000 a k with|true=>exact⟨k,0,rfl,λ_=>rfl,.inl ⟨rfl,rfl⟩⟩|false=>exact⟨_,1,rfl,λ_=>rfl,.inr ⟨rfl,rfl⟩⟩
def EsRel.get{es es':Array MapEntry}(h:EsRel ρ L es.toList es'.toList)(i:Nat):(es[i]? =Z/\es'[i]? =Z)\/∃e a,es[i]? =NA e/\es'[i]? =NA a/\ERel ρ L e a:=by
 have d:∀{l c:List MapEntry},EsRel ρ L l c->∀i:Nat,(l[i]? =Z/\c[i]? =Z)\/∃e a,l[i]? =NA e/\c[i]? =NA a/\ERel ρ L e a:=by
  intro l c h
  induction h with
  |nil=>exact λi=> .inl ⟨OD,OD⟩
  |cons h _ f=>
   intro i;cases i with|zero=>exact .inr ⟨_,_,rfl,rfl,h⟩|succ i=>simpa using f i
 simpa using d h i
def EsRel.modify(f c:MapEntry->MapEntry)(g:∀e d,ERel ρ L e d->ERel ρ L (f e) (c d)):∀{l a:List MapEntry}(i:Nat),EsRel ρ L l a->EsRel ρ L (l.modify i f) (a.modify i c):=by
 intro l a i h
 induction h generalizing i with
 |nil=>simp;exact .nil
 |cons h j m=>
  cases i with|zero=>exact .cons (g _ _ h) j|succ i=>exact .cons h (m i)
def EsRel.push{l a:List MapEntry}{e c:MapEntry}(h:EsRel ρ L l a)(d:ERel ρ L e c):EsRel ρ L (l++[e]) (a++[c]):=by
 induction h with|nil=>exact .cons d .nil|cons h _ f=>exact .cons h f
def DC(r:Nat){o o':Obj}(d:L r)(a:ORel ρ L I o o')(h:∀l,o= .loop l->Λ l)(g:∀c e f,o≠.cells c e f):Q P fs Λ P.globals.size ρ L (TT (α:=Unit) (β:=Unit)) (setObj r o) (setObj (ρ r) o'):=λ_ _=> .setObj d a h g (.pure trivial)
def Tz(t:NT)(m k:J):Sem (Nat×Array MapEntry×Nat×Option (Nat×J)):=do
 let .map keyType _<-underlying t|stuck "MapUpdate: map type expected"
 match m with
 | .map Z=>runtimePanic (.plain "assignment to entry in nil map")
 | .map (NA r)=>
   let .map es clock<-getObj r|stuck "MapUpdate: map expected"
   Instr.checkKey ND 10000 keyType k
   let x<-Instr.findKey keyType k es.toList
   pure (r,es,clock,x)
 |_=>stuck "MapUpdate: map expected"
def OO(k v:J):Nat×Array MapEntry×Nat×Option (Nat×J)->Sem Unit
 |(r,es,clock,NA (i,_))=>do
  let key<-Instr.keyThatStays (((es[i]?).map (·.key)).getD k) k
  setObj r (.map (es.modify i λe=>{e with key,val:=v}) clock)
 |(r,es,clock,Z)=>setObj r (.map (es.push {key:=k,val:=v,born:=clock}) (clock+1))
def dh(t:NT)(m k v:J):Instr.mapUpdate t m k v=Tz t m k>>=OO k v:=by
 unfold Instr.mapUpdate Tz;rw[bind_assoc];congr 1;funext d;cases d with
 |map _ _=>
  dsimp only;cases m with
  |map r=>
   cases r with
   |none=>rfl
   |some r=>
    dsimp only;rw[bind_assoc];congr 1;funext o;cases o with
    |map es _=>
     dsimp only;rw[bind_assoc];congr 1;funext _;rw[bind_assoc];congr 1;funext x;rw[pure_bind];cases x with|none=>rfl|some x=>rfl
    |_=>rfl
  |_=>rfl
 |_=>rfl
structure UR(ρ:Nat->Nat)(L:Nat->Prop)(x y:Nat×Array MapEntry×Nat×Option (Nat×J)):Prop where
 r:y.1=ρ x.1
 live:L x.1
 es:EsRel ρ L x.2.1.toList y.2.1.toList
 clock:y.2.2.1=x.2.2.1
 found:FR ρ L x.2.2.2 y.2.2.2
def lh(t:NT){m C k k':J}(i:P6 P t=I)(f:VRel ρ L m C)(H:VRel ρ L k k'):Q P fs Λ P.globals.size ρ L (UR ρ) (Tz t m k) (Tz t C k'):=by
 unfold Tz;refine(Za t).bind ?_;rintro d _ _ y ⟨rfl,F⟩;cases d with
 |map c _=>
  simp only[P6,F,YG]at i;obtain⟨⟨W,T⟩,_⟩:=i;have f:=f.up y;cases f with
  |nilMap=>exact V4 _ rfl
  | @map r z=>
    intro _ N;refine .getObj z λE o o' j g K _=> ?_
    cases K with
    | @map es es' a h=>
      have O:=j _ z
      refine(?_:Q P fs Λ P.globals.size ρ E (UR ρ) (do
       Instr.checkKey ND 10000 c k
       let x<-Instr.findKey c k es.toList
       pure (r,es,a,x)) (do
       Instr.checkKey ND 10000 c k'
       let x<-Instr.findKey c k' es'.toList
       pure (ρ r,es',a,x))) g N
      have n:=(H.up y).up j;refine(da _ 10000 5 E c W n).bind ?_;intro _ _ _ e _;refine(dQ c T (n.up e) (h.up e)).bind ?_;intro x _ _ u M;exact Q.pure ⟨rfl,u _ (e _ O),(h.up e).up u,rfl,M⟩
    |_=>exact .bad trivial
  |_=>exact Q.stuck
 |_=>exact Q.stuck
def EsRel.put{es es':Array MapEntry}(h:EsRel ρ L es.toList es'.toList)(i:Nat){k k' v a:J}(c:VRel ρ L k k')(f:VRel ρ L v a):
 EsRel ρ L (es.modify i λe=>{e with key:=k,val:=v}).toList (es'.modify i λe=>{e with key:=k',val:=a}).toList:=by
 simp only[Array.toList_modify];exact EsRel.modify (λe=>{e with key:=k,val:=v}) (λe=>{e with key:=k',val:=a}) (λe _ d=>⟨c,f,d.born⟩) i h
end
def Zf(Gs:Nat->Bool):Operand->Bool
 | .const v=>plainV 3 v
 | .global g=>Gs g
 | .func f=> !Ban.ban f
 |_=>I
def I1(P:U)(t:NT):Bool:=match P.underlying t with|some (.slice e)=>Ui P e|_=>I
def bV(P:U)(s:NT)(i:Nat):Bool:=
 match P.underlying s with
 |some (.struct fs)=>match fs[i]? with
  |some f=>(P.info? f.type).all (·.size !=0)
  |none=>I
 |_=>I
def PG(P:U)(Gs:Nat->Bool)(c:Call):Bool:=
 c.args.toList.all (Zf Gs)&&match c.callee with
  | .value (.func f)=> !Ban.ban f||c.args.size==Ban.arity f
  | .value f=>Zf Gs f
  | .builtin .append=>EZ P c.argTypes
  | .builtin .len=>FA P c.argTypes
  | .builtin .max| .builtin .min=>I
  |_=>ND
def ZJ(P:U)(Gs:Nat->Bool):Op->Bool
 | .move x| .assign x=>Zf Gs x
 | .pick c a b=>Zf Gs c&&Zf Gs a&&Zf Gs b
 | .alloc e=>Ui P e
 | .box _ x=>Zf Gs x
 | .build t d=>Ui P t&&d.toList.all (Zf Gs ·.2)
 | .buildSlice t _ d=>I1 P t&&d.toList.all (Zf Gs ·.2)
 | .load _ a=>Zf Gs a
 | .store _ a x=>Zf Gs a&&Zf Gs x
 | .nilCheck x=>Zf Gs x
 | .binOp op t x y _=>JH P op t&&Zf Gs x&&Zf Gs y
 | .unOp _ _ x=>Zf Gs x
 | .convert s d x=>GD P s d&&Zf Gs x
 | .makeFunc (.func f) first captured=> !Ban.ban f&&first.toList.all (Zf Gs)&&captured.toList.all (Zf Gs)
 | .makeMap _ Z=>I
 | .makeSlice t l c=>I1 P t&&Zf Gs l&&Zf Gs c
 | .slice _ x lo hi Z=>Zf Gs x&&lo.all (Zf Gs)&&hi.all (Zf Gs)
 | .fieldAddr s x f=>bV P s f&&Zf Gs x
 | .field _ x _=>Zf Gs x
 | .indexAddr _ x i=>Zf Gs x&&Zf Gs i
 | .index _ x i=>Zf Gs x&&Zf Gs i
 | .lookup t x i _=>P6 P t&&Zf Gs x&&Zf Gs i
 | .mapUpdate t m k x=>P6 P t&&Zf Gs m&&Zf Gs k&&Zf Gs x
 | .extract x _=>Zf Gs x
 | .call c=>PG P Gs c
 |_=>ND
def O0(fn:Func):Bool:=
 fn.body.isNone&& !(fn.name== "runtime.NumGoroutine")&&(Extern.findNext fn).isNone&&(Extern.find fn).isNone&& !(fn.name.endsWith ".init" && !fn.name.startsWith "(" && !fn.name.startsWith "gosem.")
def Ent(P:U)(fs:Array Func)(f:NS):Prop:=
 ∃a fn,fs[f]? =NA a/\P.funcs[f]? =NA fn/\a.body.isSome=I/\fn.body.isSome=I/\(a.name== "runtime.NumGoroutine")=ND/\(fn.name== "runtime.NumGoroutine")=ND
def Y5(P:U)(fs:Array Func):Prop:=(∀f a,fs[f]? =NA a->O0 a=I\/Ent P fs f)/\P.info? 1000000000=Z
inductive NRel(P:U)(fs:Array Func)(Λ:Loop->Prop)(ρ:Nat->Nat)(L:Nat->Prop):Next->Next->Prop
 |value {v v'}:VRel ρ L v v'->NRel P fs Λ ρ L (.value v) (.value v')
 |skip:NRel P fs Λ ρ L .skip .skip
 |enter {f a a'}:Ent P fs f->(Ban.ban f=I->a.size=Ban.arity f)->AR ρ L a a'->NRel P fs Λ ρ L (.enter f a) (.enter f a')
 |round {l t t'} {r:Loop}:L l->AR ρ L t t'->Λ r->NRel P fs Λ ρ L (.round l r.fn t r.assign r.body) (.round (ρ l) r.fn t' r.assign r.body)
section
variable {P:U}{fs:Array Func}{ρ:Nat->Nat}{L:Nat->Prop}{Gs:Nat->Bool}
variable {α β γ δ σ σ':Type}{A:(Nat->Prop)->α->β->Prop}{B:(Nat->Prop)->γ->δ->Prop}
def q_v{X Y:Sem J}(h:Q P fs Λ P.globals.size ρ L (VR ρ) X Y):Q P fs Λ P.globals.size ρ L (NRel P fs Λ ρ) (do Pure.pure (Next.value (<-X))) (do Pure.pure (Next.value (<-Y))):=h.bind λ_ _ _ _ h=>Q.pure (.value h)
def q_u{X Y:Sem Unit}(h:Q P fs Λ P.globals.size ρ L (TT (α:=Unit) (β:=Unit)) X Y):Q P fs Λ P.globals.size ρ L (NRel P fs Λ ρ) (do X;Pure.pure Next.skip) (do Y;Pure.pure Next.skip):=h.bind λ_ _ _ _ _=>Q.pure .skip
def qd(t:NT):Q P fs Λ P.globals.size ρ L (VR ρ) (Instr.makeMap t Z) (Instr.makeMap t Z):=by
 unfold Instr.makeMap;exact λ_ _=> .new (.map .nil) (λ_ h=>by cases h) λr _=> .pure (.map (.inr rfl))
def DD(z:Y5 P fs)(f:NS){a m:Array J}(u:Ban.ban f=I->a.size=Ban.arity f)(E:AR ρ L a m):Q P fs Λ P.globals.size ρ L (NRel P fs Λ ρ) (callFunc f a) (callFunc f m):=by
 unfold callFunc;refine Q.program ?_;show Q P fs Λ P.globals.size ρ L (NRel P fs Λ ρ) (match fs[f]? with|none=>_|some fn=>_) (match P.funcs[f]? with|none=>_|some fn=>_);cases hf:fs[f]? with
 |none=>exact Q.stuck
 |some c=>
  rcases z.1 f c hf with h|⟨_,fn,n,j,g,e,o,t⟩
  .simp only[O0,YG,XZ,SB]at h;obtain⟨⟨⟨⟨x,C⟩,F⟩,y⟩,hi⟩:=h;dsimp only;rw[XB (by simp[C]),YZ (by simp[x])];simp only[F,y,hi,YR,VF];exact λ_ _=> .mark trivial
  .rw[hf]at n;cases n;rw[j];dsimp only;have i:c.body.isNone=ND:=by cases hh:c.body with|none=>rw[hh]at g;cases g|some _=>rfl
   have d:fn.body.isNone=ND:=by cases hh:fn.body with|none=>rw[hh]at e;cases e|some _=>rfl
   rw[XB (by simp[o]),XB (by simp[i]),XB (by simp[t]),XB (by simp[d])];exact Q.pure (.enter ⟨_,_,hf,j,g,e,o,t⟩ u E)
def LL(l:Nat)(d:L l):Q P fs Λ P.globals.size ρ L (λL r c=>LRel ρ L r c/\Λ r) (Instr.getLoop l) (Instr.getLoop (ρ l)):=by
 unfold Instr.getLoop;intro _ N;refine .getObj d λL' o o' g _ a e=> ?_
 cases a with|loop h=>exact .pure ⟨h,e _ rfl⟩|_=>exact .bad trivial
def iz{d:List Tmp}:∀{l e:List J}{t f:Array J},VsRel ρ L l e->AR ρ L t f->
 AR ρ L ((d.zip l).foldl (λc (t,a)=>c.setIfInBounds t a) t) ((d.zip e).foldl (λc (t,a)=>c.setIfInBounds t a) f):=by
 induction d with
 |nil=>intro l e t f _ h;simpa using h
 |cons x d i=>
  intro l e t f h g;cases h with|nil=>simpa using g|cons m j=>simp only[SR,VU];exact i j (g.set _ m)
def aH(l:Nat)(e:L l){a g:Array J}(f:AR ρ L a g):Q P fs Λ P.globals.size ρ L (NRel P fs Λ ρ) (Instr.yield l a) (Instr.yield (ρ l) g):=by
 unfold Instr.yield;refine(LL l e).bind ?_;rintro r _ _ d ⟨c,h⟩;refine Q.ite (by rw[<-f.1,<-c.params]) (λ_=>Q.bindStuck) (λ_=> ?_);rw[<-c.fn,<-c.assign,<-c.body,<-c.params];refine Q.pure (.round (d _ e) ?_ h);rw[<-QS,<-QS,Array.toList_zip,Array.toList_zip];exact iz (f.up d).list c.tmps
def DK{e j:Operand->J}(m:∀o,Zf Gs o=I->VRel ρ L (e o) (j o)){c:Array Operand}(h:c.toList.all (Zf Gs)=I):AR ρ L (c.map e) (c.map j):=
 AR.mk OD λi v _ g f=>by
  simp only[Array.getElem?_map,VA]at g f;obtain⟨o,d,rfl⟩:=g;obtain⟨o',a,rfl⟩:=f;rw[d]at a;cases a;exact m o (YL.1 h o (RD.2 (Array.mem_of_getElem? d)))
def dS{e c:Operand->J}(f:∀o,Zf Gs o=I->VRel ρ L (e o) (c o)){a:Array (Nat×Operand)}(h:a.toList.all (Zf Gs ·.2)=I):
 PsRel ρ L (a.map fun(i,x)=>(i,e x)).toList (a.map fun(i,x)=>(i,c x)).toList:=by
 simp only[Array.toList_map];generalize a.toList=l at h
 induction l with
 |nil=>exact .nil
 |cons x l d=>
  simp only[QZ,YG]at h;exact .cons (f _ h.1) (d h.2)
def AP{e a:Operand->J}(c:∀o,Zf Gs o=I->VRel ρ L (e o) (a o)){x:Option Operand}(h:x.all (Zf Gs)=I):OvRel ρ L (x.map e) (x.map a):=by
 cases x with|none=>exact .none|some o=>exact .some (c o h)
def bY(c:Y5 P fs){g:TypeInfo->Sem γ}{Y:Sem δ}:Q P fs Λ P.globals.size ρ L B (typeInfo 1000000000>>=g) Y:=by
 intro a N;refine SEqv.programL ?_;show SEqv _ _ _ _ _ _ _ _ (((match (Z6 P fs).info? 1000000000 with|some d=>Pure.pure d|none=>stuck "no such type" :Sem TypeInfo))>>=g) Y;rw[PN,c.2];exact Q.bindStuck (P:=P) (fs:=fs) a N
def ko(a:Y5 P fs)(n:Nat){g:NS×J->Sem γ}{Y:Sem δ}:Q P fs Λ P.globals.size ρ L B (method n 1000000000 NQ "" >>=g) Y:=by
 cases n with
 |zero=>exact Q.bindUnsupported λ_ h=>by cases h
 |succ n=>
  unfold method;rw[bind_assoc];exact bY a
def kj(c:Y5 P fs)(n:Nat){g:Option Bool->Sem γ}{Y:Sem δ}(a:Q P fs Λ P.globals.size ρ L B (g Z) Y):Q P fs Λ P.globals.size ρ L B (nilAhead n 1000000000 NQ "" >>=g) Y:=by
 cases n with
 |zero=>exact a
 |succ n=>
  unfold nilAhead;rw[bind_assoc];exact bY c
def cW(f:Y5 P fs)(a:Array J){Y:Sem Next}{B:(Nat->Prop)->Next->Next->Prop}:Q P fs Λ P.globals.size ρ L B (Deferred.ofValue bomb a>>=λd=>invoke d.target d.args) Y:=by
 have e:(#[Value.iface 1000000000 NQ]++a)[0]? =NA (.iface 1000000000 NQ):=by rw[Array.getElem?_append_left OC];rfl
 show Q P fs Λ P.globals.size ρ L B (invoke (.fn (.method "") #[]) (#[.iface 1000000000 NQ]++a)) Y;simp only[invoke,e];unfold callMethod;intro c N;refine SEqv.programL ?_;exact ko (P:=P) f _ c N
def fV(m:Y5 P fs){e j:Operand->J}(F:∀o,Zf Gs o=I->VRel ρ L (e o) (j o))(O:∀f,e (.func f)= .func (.func f) #[] #[])(H:∀f,j (.func f)= .func (.func f) #[] #[])(c:Call)(t:NT)(h:PG P Gs c=I):
 Q P fs Λ P.globals.size ρ L (NRel P fs Λ ρ) (do let d<-resolve e c t;invoke d.target d.args) (do let d<-resolve j c t;invoke d.target d.args):=by
 simp only[PG,YG]at h;obtain⟨K,h2⟩:=h;have a:=DK F K;unfold resolve;cases hc:c.callee with
 |builtin b=>
  rw[hc]at h2;cases b with|append=>exact q_v (pz _ _ h2 a)|len=>exact q_v (q_len _ _ h2 a)|max=>exact q_v (q_max _ _ a)|min=>exact q_v (q_min _ _ a)|_=>simp at h2
 |invoke r n=>rw[hc]at h2;simp at h2
 |value f=>
  rw[hc]at h2;by_cases z:∃g,f= .func g
  .obtain⟨g,rfl⟩:=z;dsimp only;rw[O,H];refine DD m g (λi=> ?_) ((AR.append .nil a).append .nil);simp only[UF,XZ,XU]at h2;rcases h2 with h2|h2
   .rw[h2]at i;cases i
   .simpa using h2
  have h2:Zf Gs f=I:=by
   cases f with|func g=>exact absurd ⟨g,rfl⟩ z|_=>exact h2
  have u:=F f h2;dsimp only;generalize e f=v at u;generalize j f=T at u;cases u with|func i y x C E=>exact DD m _ (λh=>by rw[i]at h;cases h) ((AR.append ⟨y,x⟩ a).append ⟨C,E⟩)|yield M y x C E=>exact aH _ M (AR.append ⟨y,x⟩ a)|nilFunc=>exact V4 .nilDeref rfl|meth _=>exact cW m _|_=>exact Q.stuck
def mS(hF:Y5 P fs){e O:Operand->J}(j:∀o,Zf Gs o=I->VRel ρ L (e o) (O o))(T7:∀f,e (.func f)= .func (.func f) #[] #[])(Kb:∀f,O (.func f)= .func (.func f) #[] #[])(o:Oper)(g:ZJ P Gs o.op=I)(Fg:∀t m k x,o.op≠.mapUpdate t m k x):Q P fs Λ P.globals.size ρ L (NRel P fs Λ ρ) (NU e o) (NU O o):=by
 obtain⟨F,op,u,K,z,guard⟩:=o;have M:∀t,I1 P t=I->∀X,P.underlying t=NA (.slice X)->Ui P X=I:=by
  intro t h X hu;simpa[I1,hu]using h
 cases op with
 |move x=>exact Q.pure (.value (j _ g))
 |assign x=>exact Q.pure (.value (j _ g))
 |pick c a b=>
  simp only[ZJ,YG]at g;refine(DF (j _ g.1.1)).bind ?_;rintro t _ L1 H rfl;refine Q.pure (.value ?_);cases t
  .exact(j _ g.2).up H
  .exact(j _ g.1.2).up H
 |alloc t=>exact q_v (qW t g)
 |box t x=>exact q_v (q_box t (j _ g))
 |build t ps=>simp only[ZJ,YG]at g;exact q_v (fg t g.1 (dS j g.2))
 |buildSlice t n ps=>simp only[ZJ,YG]at g;exact q_v (mL t n (M t g.1) (dS j g.2))
 |load t a=>exact q_v (pw t (j _ g))
 |store t a x=>simp only[ZJ,YG]at g;exact q_u (pO t (j _ g.1) (j _ g.2))
 |nilCheck x=>
  have hx:=j _ g;simp only[NU];generalize e x=v at hx;generalize O x=W at hx;cases hx with
  |nilPtr=>exact V4 .nilDeref rfl
  |nilIface=>exact V4 .nilDeref rfl
  |nilFunc=>exact V4 .nilDeref rfl
  |hole hh T=>
   have e:NU (λ_=>W) {dst:=F,op:= .nilCheck x,type:=u,pos:=K,after:=z,guard:=guard}=Pure.pure (.value W):=by
    cases W<;>first|rfl|(cases T;done)|(rename_i a;cases a<;>first|rfl|(cases T;done))|(rename_i a l c;cases a<;>first|rfl|(cases T;done))
   simp only[NU]at e;rw[e];exact Q.pure (.value (.hole hh T))
  |meth hh=>
   intro hK N;refine SEqv.programL ?_;exact kj (P:=P) hF _ (Q.bindUnsupported λ_ h=>by cases h) hK N
  |bool b=>exact Q.pure (.value (.bool b))
  |int k n=>exact Q.pure (.value (.int k n))
  |string s=>exact Q.pure (.value (.string s))
  |ptr h=>exact Q.pure (.value (.ptr h))
  |nilSlice l c=>exact Q.pure (.value (.nilSlice l c))
  |slice l c h=>exact Q.pure (.value (.slice l c h))
  |nilMap=>exact Q.pure (.value .nilMap)
  |map h=>exact Q.pure (.value (.map h))
  |nilChan=>exact Q.pure (.value .nilChan)
  |func hb a1 a2 Y c2=>exact Q.pure (.value (.func hb a1 a2 Y c2))
  |yield hl a1 a2 Y c2=>exact Q.pure (.value (.yield hl a1 a2 Y c2))
  |iface t h=>exact Q.pure (.value (.iface t h))
  |agg E C=>exact Q.pure (.value (.agg E C))
  |tuple E C=>exact Q.pure (.value (.tuple E C))
 |binOp op t x y yt=>
  simp only[ZJ,YG]at g;refine q_v ?_;refine(iW op t x y (j _ g.1.2) (j _ g.2)).bind ?_;intro _ _ L1 H _;exact iJ op t g.1.1 ((j _ g.1.2).up H) ((j _ g.2).up H)
 |unOp op t x=>exact q_v (lO op (j _ g))
 |convert s d x=>simp only[ZJ,YG]at g;exact q_v (ja s d g.1 (j _ g.2))
 |makeFunc fn a c=>
  cases fn with
  |func f=>
   simp only[ZJ,YG,XZ]at g;have E:=DK j g.1.2;have C:=DK j g.2;exact q_v (Q.pure (.func g.1.1 E.1 E.2 C.1 C.2))
  |_=>simp[ZJ]at g
 |makeMap t r=>
  cases r with|none=>exact q_v (qd t)|some _=>simp[ZJ]at g
 |makeSlice t l c=>simp only[ZJ,YG]at g;exact q_v (qE t (j _ g.1.2) (j _ g.2) (M t g.1.1))
 |slice t x lo hi mx=>
  cases mx with
  |none=>simp only[ZJ,YG]at g;exact q_v (nw t (j _ g.1.1) (AP j g.1.2) (AP j g.2))
  |some _=>simp[ZJ]at g
 |fieldAddr s x f=>
  simp only[ZJ,YG]at g;refine q_v (ns s f (j _ g.2) ?_);intro fs f' hs hf i hi;have h:=g.1;simp only[bV,hs,hf,hi,Option.all_some,bne_iff_ne,ne_eq]at h;exact h
 |field t x f=>exact q_v (nF t f (j _ g))
 |indexAddr t x i=>simp only[ZJ,YG]at g;exact q_v (ju t (j _ g.1) (j _ g.2))
 |index t x i=>simp only[ZJ,YG]at g;exact q_v (rp t (j _ g.1) (j _ g.2))
 |lookup t x i ok=>simp only[ZJ,YG]at g;exact q_v (pV t ok g.1.1 (j _ g.1.2) (j _ g.2))
 |mapUpdate t m k x=>exact absurd rfl (Fg t m k x)
 |extract x i=>exact q_v (nE i (j _ g))
 |call c=>exact fV hF j T7 Kb c u g
 |_=>simp[ZJ]at g
end
end Go.Nk
section
namespace Go
def Result.wld{α:Type}:Result α->NL
 | .ok _ w=>w
 | .halt _ w=>w
end Go
namespace Go.Nk
open Go Go.Conc
def retape(t:Nat->Question->Nat)(w:NL):NL:={w with tape:=t}
def rtR{α:Type}(t:Nat->Question->Nat):Result α->Result α
 | .ok a w=> .ok a (retape t w)
 | .halt h w=> .halt h (retape t w)
def Agr(w w1:NL)(t:Nat->Question->Nat):Prop:=∀i,w.drawn<=i->i<w1.drawn->t i=w.tape i
def Fwd(w w1:NL):Prop:=w.drawn<=w1.drawn/\w1.tape=w.tape
def Fwd.refl(w:NL):Fwd w w:=⟨XA _,rfl⟩
def Fwd.trans{a b c:NL}(h:Fwd a b)(d:Fwd b c):Fwd a c:=⟨XC h.1 d.1,d.2.trans h.2⟩
def Agr.left{a c:NL}{t}(h:Agr a c t)(f:Fwd b c):Agr a b t:=λi e d=>h i e (YS d f.1)
def Agr.right{a c:NL}{t}(h:Agr a c t)(d:Fwd a b):Agr b c t:=λi f e=>by rw[d.2];exact h i (XC d.1 f) e
def nD{α:Type}(P:U)(X:Sem α):∀(w:NL)(es:Array Event)(x:Event),x∈es->x∈(X.runT P w es).2:=by
 induction X with
 |pure a=>exact λw es x h=>h
 |load m a k d=>
  intro w es x h;simp only[Sem.runT]
  (repeat' split)<;>first|exact d _ _ _ _ (by simp[h])|exact h
 |store m a v k d=>
  intro w es x h;cases v<;>simp only[Sem.runT]<;>first|exact h|((repeat' split)<;>first|exact d _ _ _ (by simp[h])|exact h)
 |new o k d=>intro w es x h;exact d _ _ _ _ h
 |shape r k d=>intro w es x h;exact d _ _ _ _ h
 |freeze a n k d=>intro w es x h;exact d _ _ _ h
 |frozen a k d=>intro w es x h;exact d _ _ _ _ h
 |getObj r k d=>
  intro w es x h;simp only[Sem.runT];split<;>first|exact d _ _ _ _ (by simp[h])|exact h
 |setObj r o k d=>
  intro w es x h;simp only[Sem.runT];split<;>first|exact d _ _ _ (by simp[h])|exact h
 |choose q k d=>
  intro w es x h;simp only[Sem.runT];split<;>exact d _ _ _ _ h
 |sys c k d=>intro w es x h;exact d _ _ _ _ (by simp[h])
 |program k d=>intro w es x h;exact d _ _ _ _ h
 |mark m k d=>intro w es x h;exact d _ _ _ (by simp[h])
 |halt h=>exact λw es x h=>h
def oy(P:U)(w:NL)(a:NP)(m:Bool)(t):(retape t w).farLoad P a m=w.farLoad P a m:=rfl
def qv(P:U)(w:NL)(a:NP)(u:NT)(k:NP)(m:Bool)(t):(retape t w).seen P a u k m=w.seen P a u k m:=rfl
def md(P:U)(w:NL)(a:NP)(u:NT)(k:NP)(v:J)(m:Bool):
 (∃e,∀t,(retape t w).viewStore P a u k v m= .error e)\/(∃o l,∀t,(retape t w).viewStore P a u k v m= .ok ({retape t w with heap:=w.heap.setIfInBounds a.block o},l)):=by
 unfold World.viewStore;simp only[qv,bind,Except.bind,pure,Except.pure];cases htt:tight P P.depth u with
 |false=>simp only[Bool.not_false,XY];exact .inl ⟨_,λt=>rfl⟩
 |true=>
  simp only[SZ,YR,VF];cases w.seen P a u k m with
  |error e=>exact .inl ⟨_,λt=>rfl⟩
  |ok x=>
   obtain⟨c,e,_,first,f,cells⟩:=x;dsimp only;cases v.bytes? with
   |none=>exact .inl ⟨_,λt=>rfl⟩
   |some d=>
    dsimp only;by_cases g:NA d.length≠f.bytes?.map (λx=>x.length)
    .simp only[YZ g];exact .inl ⟨_,λt=>rfl⟩
    .simp only[XB g];generalize (List.foldlM (m:=Except String) _ c cells)=r;cases r with|error e=>exact .inl ⟨_,λt=>rfl⟩|ok _=>exact .inr ⟨_,_,λt=>rfl⟩
def Vt(w:NL):retape w.tape w=w:=rfl
def lR(P:U)(w:NL)(a:NP)(v:J)(m:Bool):
 (∃e,∀t,(retape t w).farStore P a v m= .error e)\/(∃h l,∀t,(retape t w).farStore P a v m= .ok ({retape t w with heap:=h},l)):=by
 unfold World.farStore;have d:∀t,(retape t w).heap=w.heap:=λt=>rfl
 simp only[d];cases hb:w.heap[a.block]? with
 |none=>exact .inl ⟨w.noCell a "store: no such cell",λt=>by simp only[World.noCell,d,hb]⟩
 |some o=>
  cases o with
  |view c u=>
   dsimp only;rcases md P w c u a v m with⟨e,h⟩|⟨o,l,h⟩
   .exact .inl ⟨_,λt=>by rw[h t]⟩
   .exact .inr ⟨_,_,λt=>by rw[h t]⟩
  |_=>exact .inl ⟨_,λt=>by simp only[World.noCell,d,hb];rfl⟩
def Ca{α:Type}(P:U)(X:Sem α):∀(w:NL)(es:Array Event),(∀x∈(X.runT P w es).2,x.loc≠.output)->
 Fwd w (X.runT P w es).1.wld/\∀t,Agr w (X.runT P w es).1.wld t->X.runT P (retape t w) es=(rtR t (X.runT P w es).1,(X.runT P w es).2):=by
 induction X with
 |pure a=>exact λw es _=>⟨Fwd.refl w,λt _=>rfl⟩
 |load m a k d=>
  intro w es h;have y:∀t,(retape t w).cell? a=w.cell? a:=λt=>rfl
  simp only[Sem.runT,y,oy]at h⊢;cases hc:w.cell? a with
  |some v=>simp only[hc]at h⊢;exact d _ _ _ h
  |none=>
   simp only[hc]at h⊢;cases g:w.farLoad P a (m== .atomic)with
   |ok r=>obtain⟨v,l⟩:=r;simp only[g]at h⊢;exact d _ _ _ h
   |error e=>exact⟨Fwd.refl w,λt _=>rfl⟩
 |store m a v k d=>
  intro w es h;have y:∀t,(retape t w).cell? a=w.cell? a:=λt=>rfl
  have H:∀t,(retape t w).frozen? a=w.frozen? a:=λt=>rfl
  have C:(∀x∈((match w.cell? a with
   |some _=>if w.frozen? a then(Result.halt (.unsupported (.unsafePointer "a write to bytes that a string shares")) w,es)else k.runT P (w.setCell a v) (es.push ⟨.cell a,I,m== .atomic⟩)
   |none=>match w.farStore P a v (m== .atomic)with
    | .ok (w,touched)=>k.runT P w (es++touched.toArray.map (⟨.cell ·,I,m== .atomic⟩))
    | .error h=>(.halt h w,es)):Result α×Array Event).2,x.loc≠.output)->
   Fwd w ((match w.cell? a with
    |some _=>if w.frozen? a then(Result.halt (.unsupported (.unsafePointer "a write to bytes that a string shares")) w,es)else k.runT P (w.setCell a v) (es.push ⟨.cell a,I,m== .atomic⟩)
    |none=>match w.farStore P a v (m== .atomic)with
     | .ok (w,touched)=>k.runT P w (es++touched.toArray.map (⟨.cell ·,I,m== .atomic⟩))
     | .error h=>(.halt h w,es)):Result α×Array Event).1.wld/\∀t,Agr w ((match w.cell? a with
    |some _=>if w.frozen? a then(Result.halt (.unsupported (.unsafePointer "a write to bytes that a string shares")) w,es)else k.runT P (w.setCell a v) (es.push ⟨.cell a,I,m== .atomic⟩)
    |none=>match w.farStore P a v (m== .atomic)with
     | .ok (w,touched)=>k.runT P w (es++touched.toArray.map (⟨.cell ·,I,m== .atomic⟩))
     | .error h=>(.halt h w,es)):Result α×Array Event).1.wld t->
    (match (retape t w).cell? a with
    |some _=>if(retape t w).frozen? a then(Result.halt (.unsupported (.unsafePointer "a write to bytes that a string shares")) (retape t w),es)else k.runT P ((retape t w).setCell a v) (es.push ⟨.cell a,I,m== .atomic⟩)
    |none=>match (retape t w).farStore P a v (m== .atomic)with
     | .ok (w,touched)=>k.runT P w (es++touched.toArray.map (⟨.cell ·,I,m== .atomic⟩))
     | .error h=>(.halt h (retape t w),es))=(rtR t ((match w.cell? a with
    |some _=>if w.frozen? a then(Result.halt (.unsupported (.unsafePointer "a write to bytes that a string shares")) w,es)else k.runT P (w.setCell a v) (es.push ⟨.cell a,I,m== .atomic⟩)
    |none=>match w.farStore P a v (m== .atomic)with
     | .ok (w,touched)=>k.runT P w (es++touched.toArray.map (⟨.cell ·,I,m== .atomic⟩))
     | .error h=>(.halt h w,es)):Result α×Array Event).1,((match w.cell? a with
    |some _=>if w.frozen? a then(Result.halt (.unsupported (.unsafePointer "a write to bytes that a string shares")) w,es)else k.runT P (w.setCell a v) (es.push ⟨.cell a,I,m== .atomic⟩)
    |none=>match w.farStore P a v (m== .atomic)with
     | .ok (w,touched)=>k.runT P w (es++touched.toArray.map (⟨.cell ·,I,m== .atomic⟩))
     | .error h=>(.halt h w,es)):Result α×Array Event).2):=by
   simp only[y,H];cases hc:w.cell? a with
   |some _=>
    dsimp only;by_cases F:w.frozen? a=I
    .simp only[F,XY];exact λ_=>⟨Fwd.refl w,λt _=>rfl⟩
    .simp only[F,VF,YR];exact λh=>d (w.setCell a v) _ h
   |none=>
    dsimp only;rcases lR P w a v (m== .atomic)with⟨e,g⟩|⟨K,l,g⟩
    .have f:=g w.tape;rw[Vt]at f;simp only[g,f];exact λ_=>⟨Fwd.refl w,λt _=>rfl⟩
    .have f:=g w.tape;rw[Vt]at f;simp only[g,f];exact λh=>d {w with heap:=K} _ h
  cases v<;>simp only[Sem.runT]at h⊢<;>first|exact⟨Fwd.refl w,λt _=>rfl⟩|exact C h
 |new o k d=>intro w es h;exact d w.heap.size {w with heap:=w.heap.push o} es h
 |shape r k d=>intro w es h;exact d _ _ _ h
 |freeze a n k d=>
  intro w es h;have e:∀t,(retape t w).freeze a n=retape t (w.freeze a n):=λt=>by unfold World.freeze;split<;>rfl
  have e2:Fwd w (w.freeze a n):=by unfold World.freeze;split<;>exact Fwd.refl _
  have e3:(w.freeze a n).drawn=w.drawn:=by unfold World.freeze;split<;>rfl
  obtain⟨j,u⟩:=d (w.freeze a n) es h;refine⟨e2.trans j,λt i=> ?_⟩;show(k.runT P ((retape t w).freeze a n) es)=_;rw[e];exact u t (i.right e2)
 |frozen a k d=>intro w es h;exact d _ _ _ h
 |getObj r k d=>
  intro w es h;have z:∀t,(retape t w).heap=w.heap:=λt=>rfl
  simp only[Sem.runT,z]at h⊢;cases ho:w.heap[r]? with|none=>exact⟨Fwd.refl w,λt _=>rfl⟩|some o=>rw[ho]at h;cases o<;>first|exact⟨Fwd.refl w,λt _=>rfl⟩|exact d _ _ _ h
 |setObj r o k d=>
  intro w es h;have z:∀t,(retape t w).heap=w.heap:=λt=>rfl
  simp only[Sem.runT,z]at h⊢;cases ho:w.heap[r]? with|none=>exact⟨Fwd.refl w,λt _=>rfl⟩|some o'=>rw[ho]at h;cases o'<;>first|exact⟨Fwd.refl w,λt _=>rfl⟩|exact d {w with heap:=w.heap.setIfInBounds r o} _ h
 |choose q k d=>
  intro w es h;simp only[Sem.runT]at h⊢;by_cases E:q.forced=I
  .simp only[E,XY]at h⊢;exact d _ _ _ h
  .simp only[E,VF,YR]at h⊢;have f:Fwd w {w with drawn:=w.drawn+1}:=⟨QW _,rfl⟩;obtain⟨j,u⟩:=d _ {w with drawn:=w.drawn+1} es h;refine⟨f.trans j,λt i=> ?_⟩;have e:t w.drawn=w.tape w.drawn:=i _ (XA _) (YS (Nat.lt_succ_self _) j.1);show(k (q.cut (t w.drawn q))).runT P {retape t w with drawn:=w.drawn+1} es=_;rw[e];exact u t (i.right f)
 |sys c k d=>
  intro w es h;exact absurd rfl (h ⟨.output,I,ND⟩ (nD P (k (w.sys c).1) (w.sys c).2 (es.push ⟨.output,I,ND⟩) _ OD))
 |program k d=>intro w es h;exact d _ _ _ h
 |mark m k d=>intro w es h;exact d _ _ h
 |halt h=>exact λw es _=>⟨Fwd.refl w,λt _=>rfl⟩
end Go.Nk
end
namespace Go.Nk
open Go Go.Conc
variable [Ban]
def Zn(P:U)(Gs:Nat->Bool):Code->Bool
 | .skip| .exit _| .label _| .ret=>I
 | .region _ a _=>a.toList.all (ZJ P Gs ·.op)
 | .seq a b=>Zn P Gs a&&Zn P Gs b
 | .cond c a b=>Zf Gs c&&Zn P Gs a&&Zn P Gs b
 | .block _ c=>Zn P Gs c
 | .loop c=>Zn P Gs c
 | .scope c=>Zn P Gs c
 | .rangeFunc f _ a b=>Zf Gs f&&Zn P Gs a&&Zn P Gs b
 |_=>ND
def Tm(P:U)(fs:Array Func)(Gs:Nat->Bool)(f:NS):Prop:=
 ∃fn c,fs[f]? =NA fn/\P.funcs[f]? =NA fn/\fn.body=NA c/\Zn P Gs c=I
def ZE(P:U)(fs:Array Func)(Gs:Nat->Bool)(r:Loop):Prop:=Tm P fs Gs r.fn/\Zn P Gs r.assign=I/\Zn P Gs r.body=I/\∀c,r.pending=NA c->Zn P Gs c=I
section
variable (P:U)(fs:Array Func)(Gs:Nat->Bool)(ρ:Nat->Nat)(L:Nat->Prop)
inductive IRel:Item->Item->Prop
 |code {c}:Zn P Gs c=I->IRel (.code c) (.code c)
 |inBlock (id):IRel (.inBlock id) (.inBlock id)
 |inLoop {c}:Zn P Gs c=I->IRel (.inLoop c) (.inLoop c)
 |inScope {c}:Zn P Gs c=I->IRel (.inScope c) (.inScope c)
 |inRegion {ops:Array Oper} {todo}:ops.toList.all (ZJ P Gs ·.op)=I->IRel (.inRegion ops todo) (.inRegion ops todo)
 |inRangeFunc {l}:L l->IRel (.inRangeFunc l) (.inRangeFunc (ρ l))
 |endRangeFunc {l}:L l->IRel (.endRangeFunc l) (.endRangeFunc (ρ l))
 |beginRound:IRel .beginRound .beginRound
inductive ItsR:List Item->List Item->Prop
 |nil:ItsR [] []
 |cons {i i' is is'}:IRel P Gs ρ L i i'->ItsR is is'->ItsR (i::is) (i'::is')
inductive RoR:Option Nat->Option Nat->Prop
 |none:RoR Z Z
 |some {l}:L l->RoR (NA l) (NA (ρ l))
structure FrR(fr fr':NN):Prop where
 fn:fr'.fn=fr.fn
 tm:Tm P fs Gs fr.fn
 tmps:AR ρ L fr.tmps fr'.tmps
 todo:ItsR P Gs ρ L fr.todo fr'.todo
 defers:DsRel ρ L fr.defers fr'.defers
 mode:fr'.mode=fr.mode/\(fr.mode= .run\/fr.mode= .returning)
 kind:fr.kind= .normal/\fr'.kind= .normal
 round:RoR ρ L fr.roundOf fr'.roundOf
inductive CsR(bot bot':List NN):List NN->List NN->Prop
 |nil:CsR bot bot' bot bot'
 |cons {f f' cs cs'}:FrR P fs Gs ρ L f f'->(cs=bot->f.roundOf=Z)->CsR bot bot' cs cs'->CsR bot bot' (f::cs) (f'::cs')
inductive Top:NN->NN->Prop
 |own {fr fr'}:FrR P fs Gs ρ L fr fr'->Top fr fr'
 |other {f a a'}:¬Tm P fs Gs f->Ent P fs f->(Ban.ban f=I->a.size=Ban.arity f)->AR ρ L a a'->Top (Frame.enter (Z6 P fs) f a .normal) (Frame.enter P f a' .normal)
end
structure Foot0(ρ:Nat->Nat)(Fz:Nat->Prop)(V w V' w':NL)(new:Array Event):Prop where
 live:∀b,Live V b->Live V' b
 newly:∀b,Live V' b->Live V b\/V.heap.size<=b
 vsize:V.heap.size<=V'.heap.size
 size:w.heap.size<=w'.heap.size
 stay:∀r,r<w.heap.size->(∀b,Live V b->¬Fz b->ρ b≠r)->w'.heap[r]? =w.heap[r]?
 evs:∀e∈new,EvOk ρ Fz V' e
 tape:w'.tape=w.tape
 os:w'.os=w.os
 output:w'.output=w.output
 drawn:w.drawn<=w'.drawn
 dark:∀a x,Live V a.block->V'.cell? a=NA x->big x=I->V.cell? a=NA x/\w'.cell? (Zl ρ a)=w.cell? (Zl ρ a)
section
variable {P:U}{fs:Array Func}{Gs:Nat->Bool}{ρ:Nat->Nat}{L:Nat->Prop}{Fz:Nat->Prop}{w:NL}
def Foot.foot0(h:Foot ρ Fz V w V' w' es):Foot0 ρ Fz V w V' w' es:=⟨h.live,h.newly,h.vsize,h.size,h.stay,h.evs,h.tape,h.os,h.output,h.drawn,h.dark⟩
def Foot0.sub(h:Foot0 ρ Fz V w V' w' es)(a:∀e∈es',e∈es):Foot0 ρ Fz V w V' w' es':=⟨h.live,h.newly,h.vsize,h.size,h.stay,λe c=>h.evs e (a e c),h.tape,h.os,h.output,h.drawn,h.dark⟩
def Foot0.refl(V w:NL):Foot0 ρ Fz V w V w #[]:=(Foot.refl V w).foot0
def Foot0.trans(t:∀j,ρ (V.heap.size+j)=w.heap.size+j)(h:Foot0 ρ Fz V w V' w' es)(c:Foot0 ρ Fz V' w' V'' w'' es'):Foot0 ρ Fz V w V'' w'' (es++es'):=by
 refine⟨λb hb=>c.live b (h.live b hb),λb hb=> ?_,XC h.vsize c.vsize,XC h.size c.size,λr f g=> ?_,λe he=> ?_,c.tape.trans h.tape,c.os.trans h.os,c.output.trans h.output,XC h.drawn c.drawn,λa x d o hb=> ?_⟩
 .rcases c.newly b hb with hb|hb
  .exact h.newly b hb
  .exact .inr (XC h.vsize hb)
 .rw[c.stay r (YS f h.size) λb hb i he=> ?_,h.stay r f g];rcases h.newly b hb with hb|hb
  .exact g b hb i he
  .have:=t (b - V.heap.size);rw[Nat.add_sub_cancel' hb]at this;omega
 .rcases UX.1 he with he|he
  .exact(h.evs e he).mono c.live
  .exact c.evs e he
 .obtain⟨h1,h2⟩:=c.dark a x (h.live _ d) o hb;obtain⟨n,m⟩:=h.dark a x d h1 hb;exact⟨n,h2.trans m⟩
def IRel.mono{a b:Item}(h:IRel P Gs ρ L a b)(c:∀b,L b->L' b/\ρ' b=ρ b):IRel P Gs ρ' L' a b:=by
 cases h with|code h=>exact .code h|inBlock id=>exact .inBlock id|inLoop h=>exact .inLoop h|inScope h=>exact .inScope h|inRegion h=>exact .inRegion h|inRangeFunc h=>rw[<-(c _ h).2];exact .inRangeFunc (c _ h).1|endRangeFunc h=>rw[<-(c _ h).2];exact .endRangeFunc (c _ h).1|beginRound=>exact .beginRound
def ItsR.mono{a b:List Item}(h:ItsR P Gs ρ L a b)(d:∀b,L b->L' b/\ρ' b=ρ b):ItsR P Gs ρ' L' a b:=by
 induction h with|nil=>exact .nil|cons h _ c=>exact .cons (h.mono d) c
def RoR.mono{a b:Option Nat}(h:RoR ρ L a b)(c:∀b,L b->L' b/\ρ' b=ρ b):RoR ρ' L' a b:=by
 cases h with|none=>exact .none|some h=>rw[<-(c _ h).2];exact .some (c _ h).1
def FrR.mono{a b:NN}(h:FrR P fs Gs ρ L a b)(c:∀b,L b->L' b/\ρ' b=ρ b):FrR P fs Gs ρ' L' a b:=
 ⟨h.fn,h.tm,h.tmps.mono c,h.todo.mono c,h.defers.mono c,h.mode,h.kind,h.round.mono c⟩
def CsR.mono{bot bot' a b:List NN}(h:CsR P fs Gs ρ L bot bot' a b)(c:∀b,L b->L' b/\ρ' b=ρ b):CsR P fs Gs ρ' L' bot bot' a b:=by
 induction h with|nil=>exact .nil|cons h e _ d=>exact .cons (h.mono c) e d
def CsR.length{bot bot' a b:List NN}(h:CsR P fs Gs ρ L bot bot' a b):bot.length<=a.length:=by
 induction h with|nil=>exact XA _|cons _ _ _ c=>exact Nat.le_succ_of_le c
def FrR.up{a b:NN}(h:FrR P fs Gs ρ L a b)(c:∀b,L b->L' b):FrR P fs Gs ρ L' a b:=h.mono λb d=>⟨c b d,rfl⟩
def CsR.up{bot bot' a b:List NN}(h:CsR P fs Gs ρ L bot bot' a b)(c:∀b,L b->L' b):CsR P fs Gs ρ L' bot bot' a b:=h.mono λb d=>⟨c b d,rfl⟩
def ItsR.up{a b:List Item}(h:ItsR P Gs ρ L a b)(c:∀b,L b->L' b):ItsR P Gs ρ L' a b:=h.mono λb d=>⟨c b d,rfl⟩
def DsRel.up{a b:List Deferred}(h:DsRel ρ L a b)(c:∀b,L b->L' b):DsRel ρ L' a b:=h.mono λb d=>⟨c b d,rfl⟩
def FrR.todoTo{c a:NN}(h:FrR P fs Gs ρ L c a){k k':List Item}(d:ItsR P Gs ρ L k k'):FrR P fs Gs ρ L {c with todo:=k} {a with todo:=k'}:=
 ⟨h.fn,h.tm,h.tmps,d,h.defers,h.mode,h.kind,h.round⟩
def FrR.eval{m c:NN}(h:FrR P fs Gs ρ L m c)(j:∀g,Gs g=I->L g/\ρ g=g)(o:Operand)(d:Zf Gs o=I):VRel ρ L (m.eval o) (c.eval o):=by
 cases o with
 |tmp t=>exact h.tmps.at t
 |const v=>exact VRel.plain d
 |global g=>
  have:=VRel.ptr (ρ:=ρ) (L:=L) (a:=⟨g,0,Z⟩) (j g d).1;have e:Zl ρ ⟨g,0,Z⟩=⟨g,0,Z⟩:=by simp[Zl,(j g d).2]
  rw[e]at this;exact this
 |func f=>exact .func (by simpa[Zf]using d) rfl (λi hi=>absurd hi OD) rfl (λi hi=>absurd hi OD)
def FrR.finish{m c:NN}(h:FrR P fs Gs ρ L m c){v u:J}(F:VRel ρ L v u):FrR P fs Gs ρ L (m.finish v) (c.finish u):=by
 obtain⟨fn,y,a,e,t,z,ro⟩:=m;obtain⟨H,o,g,d,n,f,ro'⟩:=c;have x:=h.todo;simp only at x;cases x with
 |nil=>exact h
 |cons hi j=>
  cases hi with
  |inRegion C=>
   rename_i a;cases a with
   |nil=>exact h
   |cons i rest=>
    simp only[Frame.finish];refine⟨h.fn,h.tm,?_,.cons (.inRegion C) j,h.defers,h.mode,h.kind,h.round⟩;dsimp only;split
    .exact h.tmps.set _ F
    .exact h.tmps
  |inRangeFunc E=>exact⟨h.fn,h.tm,h.tmps,.cons (.endRangeFunc E) j,h.defers,h.mode,h.kind,h.round⟩
  |beginRound=>exact⟨h.fn,h.tm,h.tmps,j,h.defers,h.mode,h.kind,h.round⟩
  |_=>exact h
def FrR.enter{f:NS}{a g:Array J}(m:Tm P fs Gs f)(e:AR ρ L a g):FrR P fs Gs ρ L (Frame.enter (Z6 P fs) f a .normal) (Frame.enter P f g .normal):=by
 obtain⟨fn,c,i,d,j,h⟩:=m;have e1:(Z6 P fs).funcs[f]? =NA fn:=i;refine⟨rfl,⟨fn,c,i,d,j,h⟩,?_,?_,.nil,⟨rfl,.inl rfl⟩,⟨rfl,rfl⟩,.none⟩
 .simp only[Frame.enter,e1,d];rw[<-e.1];exact e.append (AR.replicate _ .undef)
 .simp only[Frame.enter,e1,d,SK,j,UM];exact .cons (.code h) .nil
def FrR.roundFr{l:Nat}{r:Loop}{t c:Array J}(d:L l)(e:AR ρ L t c)(a:ZE P fs Gs r):FrR P fs Gs ρ L (Frame.round l r.fn t r.assign r.body .normal) (Frame.round (ρ l) r.fn c r.assign r.body .normal):=
 ⟨rfl,a.1,e,.cons (.code a.2.1) (.cons .beginRound (.cons (.code a.2.2.1) .nil)),.nil,⟨rfl,.inl rfl⟩,⟨rfl,rfl⟩,.some d⟩
end
def Ql(p:U)(fn:NS)(es:Array Event):∀e∈seen p fn es,e∈es:=by
 unfold seen;dsimp only;rw[<-QS]
 have d:∀(l:List Event)(a:Bool×Array Event)(S:Event->Prop),(∀e∈a.2,S e)->(∀e∈l,S e)->
  ∀e∈(l.foldl (fun(x:Bool×Array Event) e=>match e.loc with
   | .mark (.extern f)=>((p.funcs[f]?).any (·.norace),x.2)
   |_=>(x.1,if x.1&& !e.sync then x.2 else x.2.push e)) a).2,S e:=by
  intro l
  induction l with
  |nil=>exact λa S h _=>h
  |cons x l m=>
   intro a S g i;simp only[VU];refine m _ S ?_ (λe c=>i e (YW _ c));intro e c;have j:∀e∈(if a.1&& !x.sync then a.2 else a.2.push x),S e:=by
    intro e c;split at c
    .exact g e c
    .rcases Array.mem_push.1 c with c|rfl
     .exact g e c
     .exact i _ YY
   split at c
   .exact g e c
   .exact j e c
 intro e c;exact d es.toList _ (·∈es) OD (λe c=>by simpa using c) e c
section
variable (P:U)(fs:Array Func)(Gs:Nat->Bool)(ρ:Nat->Nat)(Fz:Nat->Prop)(bot bot':List NN)
def Lk(V w:NL)(s:GStep)(f:(Nat->Question->Nat)->GStep):Prop:=
 ∃c d V1 es1 a e w1 es2,s= .go (G c d) V1 es1/\(Fwd w w1/\∀t,Agr w w1 t->f t= .go (G a e) (retape t w1) es2)/\(Top P fs Gs ρ (Live V1) c a/\(d=bot->FrR P fs Gs ρ (Live V1) c a))/\CsR P fs Gs ρ (Live V1) bot bot' d e/\(d=bot->c.roundOf=Z)/\
  Sim0 ρ P.globals.size Fz V1 w1/\LoopsOk (ZE P fs Gs) V1/\Foot0 ρ Fz V w V1 w1 es2
def Bd(V w:NL)(fn:NS)(g e:List NN)(s:GStep)(f:(Nat->Question->Nat)->GStep):Prop:=
 (∃o V1 es,s= .ended o V1 es/\∀v,o≠.done v)\/
 ∃a V1 es1 d w1 es2,s= .go (G a g) V1 es1/\f w.tape= .go (G d e) w1 es2/\(∃c,a.mode= .panicking c)/\a.fn=fn/\DsRel ρ (Live V1) a.defers d.defers/\
  Sim0 ρ P.globals.size Fz V1 w1/\LoopsOk (ZE P fs Gs) V1/\∀b,Live V b->Live V1 b
end
section
variable {P:U}{fs:Array Func}{Gs:Nat->Bool}{ρ:Nat->Nat}{L:Nat->Prop}{Fz:Nat->Prop}{w:NL}{bot bot':List NN}
def Pq{L:Nat->Prop}{c a:NN}{C:Prop}(h:FrR P fs Gs ρ L c a):Top P fs Gs ρ L c a/\(C->FrR P fs Gs ρ L c a):=⟨.own h,λ_=>h⟩
def IS{d a:List NN}{o:Outcome}{c:(Nat->Question->Nat)->GStep}(h:∀v,o≠.done v):Bd P fs Gs ρ Fz V w fn d a (.ended o V1 es) c:= .inl ⟨_,_,_,rfl,h⟩
def Vw{d a:List NN}{s:String}{c:(Nat->Question->Nat)->GStep}:Bd P fs Gs ρ Fz V w fn d a (.ended (.stuck s p) V1 es) c:=IS (λv h=>by cases h)
def dN{e:Event}(h:EvOk ρ Fz V e):e.loc≠.output:=by
 rcases h with⟨a,wr,rfl,_⟩|⟨r,wr,rfl,_⟩|rfl<;>simp
def Both0{α β:Type}(Λ:Loop->Prop)(ρ:Nat->Nat)(G:Nat)(Fz:Nat->Prop)(A:(Nat->Prop)->α->β->Prop)(V w:NL)(x:Result α)(y:Result β×Array Event):Prop:=
 (∃h V1,x= .halt h V1/\Bad h)\/
 ∃V' w' new,Sim0 ρ G Fz V' w'/\LoopsOk Λ V'/\Foot ρ Fz V w V' w' new/\
  ((∃a b L,x= .ok a V'/\y=(.ok b w',new)/\(∀b,L b->Live V' b)/\A L a b)\/(∃v a,x= .halt (.panic v) V'/\y=(.halt (.panic a) w',new)/\VRel ρ (Live V') v a))
def Lax(P:U)(fs:Array Func)(Gs:Nat->Bool)(ρ:Nat->Nat)(Fz:Nat->Prop)(V w:NL){α β:Type}(A:(Nat->Prop)->α->β->Prop)(X:Sem α)(Y:Sem β):Prop:=
    (∃h V1 es,X.runT (Z6 P fs) V #[]=(.halt h V1,es)/\Bad h)\/
    ∃V1 w1 new es,Sim0 ρ P.globals.size Fz V1 w1/\LoopsOk (ZE P fs Gs) V1/\Foot ρ Fz V w V1 w1 new/\
     ((∃a b c,X.runT (Z6 P fs) V #[]=(.ok a V1,es)/\(Fwd w w1/\∀t,Agr w w1 t->Y.runT P (retape t w) #[]=(.ok b (retape t w1),new))/\(∀b,c b->Live V1 b)/\A c a b)\/
      (∃v a,X.runT (Z6 P fs) V #[]=(.halt (.panic v) V1,es)/\Y.runT P w #[]=(.halt (.panic a) w1,new)/\VRel ρ (Live V1) v a))
def de{α β:Type}{A:(Nat->Prop)->α->β->Prop}{X:Sem α}{Y:Sem β}(run:Both0 (ZE P fs Gs) ρ P.globals.size Fz A V w (X.run (Z6 P fs) V) (Y.runT P w #[])):Lax P fs Gs ρ Fz V w A X Y:=by
 have i:=Sem.runT_fst (Z6 P fs) X V #[];unfold Lax;rcases e:X.runT (Z6 P fs) V #[]with⟨r,es⟩;rw[e]at i;have y:X.run (Z6 P fs) V=r:=i.symm;rw[y]at run;rcases run with⟨h,V1,rfl,m⟩|⟨V1,w1,new,g,c,f,⟨a,b,u,rfl,d,o,n⟩|⟨v,j,rfl,d,t⟩⟩
 .exact .inl ⟨h,V1,es,rfl,m⟩
 .have hl:=Ca P Y w #[] (λx e=>by rw[d]at e;exact dN (f.evs x e));rw[d]at hl;exact .inr ⟨V1,w1,new,es,g,c,f,.inl ⟨a,b,u,rfl,⟨hl.1,hl.2⟩,o,n⟩⟩
 .exact .inr ⟨V1,w1,new,es,g,c,f,.inr ⟨v,j,rfl,d,t⟩⟩
def lax{α β:Type}{A:(Nat->Prop)->α->β->Prop}{X:Sem α}{Y:Sem β}(t:Q P fs (ZE P fs Gs) P.globals.size ρ (Live V) A X Y)(j:Sim ρ P.globals.size Fz V w)(o:LoopsOk (ZE P fs Gs) V):Lax P fs Gs ρ Fz V w A X Y:=by
 have run:=(t j.good (λ_=>False)).run V w #[] j o (λ_ h=>h) (λ_ h=>h.elim);have f:∀new:Array Event,(#[]:Array Event)++new=new:=OD
 refine de ?_;rcases run with⟨h,V1,e,n⟩|⟨V1,w1,new,i,d,g,⟨a,b,z,e,c,x,u⟩|⟨v,m,e,c,y⟩⟩
 .exact .inl ⟨h,V1,e,n⟩
 .rw[f]at c;exact .inr ⟨V1,w1,new,i.toSim0,d,g,.inl ⟨a,b,z,e,c,x,u⟩⟩
 .rw[f]at c;exact .inr ⟨V1,w1,new,i.toSim0,d,g,.inr ⟨v,m,e,c,y⟩⟩
def OM{α β:Type}{A:(Nat->Prop)->α->β->Prop}{X:Sem α}{Y:Sem β}(C:Q P fs (ZE P fs Gs) P.globals.size ρ (Live V) A X Y)(u:Sim ρ P.globals.size Fz V w)(z:LoopsOk (ZE P fs Gs) V):
 (∃h V1 es,X.runT (Z6 P fs) V #[]=(.halt h V1,es)/\Bad h)\/
 ∃V1 w1 new es,Sim ρ P.globals.size Fz V1 w1/\LoopsOk (ZE P fs Gs) V1/\Foot ρ Fz V w V1 w1 new/\
  ((∃a b g,X.runT (Z6 P fs) V #[]=(.ok a V1,es)/\(Fwd w w1/\∀t,Agr w w1 t->Y.runT P (retape t w) #[]=(.ok b (retape t w1),new))/\(∀b,g b->Live V1 b)/\A g a b)\/
   (∃v e,X.runT (Z6 P fs) V #[]=(.halt (.panic v) V1,es)/\Y.runT P w #[]=(.halt (.panic e) w1,new)/\VRel ρ (Live V1) v e)):=by
 have run:=(C u.good (λ_=>False)).run V w #[] u z (λ_ h=>h) (λ_ h=>h.elim);have o:=Sem.runT_fst (Z6 P fs) X V #[];rcases f:X.runT (Z6 P fs) V #[]with⟨r,es⟩;rw[f]at o;have K:X.run (Z6 P fs) V=r:=o.symm;rw[K]at run;have m:∀new:Array Event,(#[]:Array Event)++new=new:=OD
 rcases run with⟨h,V1,rfl,y⟩|⟨V1,w1,new,n,d,i,⟨a,b,g,rfl,c,F,E⟩|⟨v,e,rfl,c,H⟩⟩
 .exact .inl ⟨h,V1,es,rfl,y⟩
 .rw[m]at c;have j:=Ca P Y w #[] (λx f=>by rw[c]at f;exact dN (i.evs x f));rw[c]at j;exact .inr ⟨V1,w1,new,es,n,d,i,.inl ⟨a,b,g,rfl,⟨j.1,j.2⟩,F,E⟩⟩
 .rw[m]at c;exact .inr ⟨V1,w1,new,es,n,d,i,.inr ⟨v,e,rfl,c,H⟩⟩
def kindN{k:List Item}(h:ItsR P Gs ρ L k k'):(match k with| .call _ I _ _::_=>CallKind.wrapped|_=> .normal)= .normal/\(match k' with| .call _ I _ _::_=>CallKind.wrapped|_=> .normal)= .normal:=by
 cases h with|nil=>exact⟨rfl,rfl⟩|cons h _=>cases h<;>exact⟨rfl,rfl⟩
def Ug(a:NN)(v:J):(a.finish v).roundOf=a.roundOf:=by
 unfold Frame.finish;split<;>rfl
def MQ(a:NN)(c:List PanicEntry):∃d,(a.raise c).mode= .panicking d:=by
 unfold Frame.raise;split<;>exact⟨_,rfl⟩
def IL(a:NN)(c:List PanicEntry):(a.raise c).fn=a.fn:=by unfold Frame.raise;split<;>rfl
def MS(a:NN)(c:List PanicEntry):(a.raise c).defers=a.defers:=by unfold Frame.raise;split<;>rfl
def AE{X Y:Sem Next}(hq:Lax P fs Gs ρ Fz V w (NRel P fs (ZE P fs Gs) ρ) X Y)
 {g c:NN}{z j:List NN}(E:FrR P fs Gs ρ (Live V) g c)(hc:CsR P fs Gs ρ (Live V) bot bot' z j)(x:z=bot->g.roundOf=Z):
 Bd P fs Gs ρ Fz V w g.fn z j (stepG.apply (Z6 P fs) I g z Z X V) (λt=>stepG.apply P I c j Z Y (retape t w))\/Lk P fs Gs ρ Fz bot bot' V w (stepG.apply (Z6 P fs) I g z Z X V) (λt=>stepG.apply P I c j Z Y (retape t w)):=by
 obtain⟨k1,k2⟩:=kindN E.todo;have M:(g.kind==CallKind.early)=ND:=by rw[E.kind.1];rfl
 have W:(c.kind==CallKind.early)=ND:=by rw[E.kind.2];rfl
 rcases hq with⟨h,V1,es,o,x⟩|⟨V1,w1,new,es,H,n,C,⟨a,b,_,o,m,F,E2⟩|⟨v,v',o,m,hv⟩⟩
 .left
  cases h with
  |stuck s=>simp only[stepG.apply,XY,o,k1];exact Vw
  |unsupported u=>
   cases u with|initOrder _=>exact x.elim|_=>simp only[stepG.apply,XY,o,k1];exact IS (λv h=>by cases h)
  |_=>exact x.elim
 .right
  have O:=E.up C.live;have K:=hc.up C.live;have T:∀e∈seen P c.fn new++ #[],e∈new:=λe he=>Ql P _ _ e (by simpa using he)
  cases E2 with
  |value hv=>
   refine⟨_,_,_,_,_,_,_,_,by simp only[stepG.apply,XY,o,k1,M,YR,VF];rfl,⟨m.1,λt d=>by simp only[stepG.apply,XY,m.2 t d,k2,W,YR,VF];rfl⟩,
    Pq (O.finish (hv.up F)),K,λe=>(Ug g _).trans (x e),H,n,C.foot0.sub T⟩
  |skip=>
   refine⟨_,_,_,_,_,_,_,_,by simp only[stepG.apply,XY,o,k1,M,YR,VF];rfl,⟨m.1,λt d=>by simp only[stepG.apply,XY,m.2 t d,k2,W,YR,VF];rfl⟩,
    Pq (O.finish .undef),K,λe=>(Ug g _).trans (x e),H,n,C.foot0.sub T⟩
  | @enter f a a' he Rj ha=>
    have d:Top P fs Gs ρ (Live V1) (Frame.enter (Z6 P fs) f a .normal) (Frame.enter P f a' .normal):=by
     by_cases d:Tm P fs Gs f
     .exact .own (.enter d (ha.up F))
     .exact .other d he Rj (ha.up F)
    have e1:stepG.apply (Z6 P fs) I g z Z X V= .go (G (Frame.enter (Z6 P fs) f a .normal) (g::z)) V1 (seen (Z6 P fs) g.fn es++ #[]):=by
     simp only[stepG.apply,XY,o,M,YR,VF];have y:=E.todo;cases Ay:g.todo with
     |nil=>rfl
     |cons i k=>
      rw[Ay]at y;generalize c.todo=k' at y;cases y with|cons hi _=>cases hi<;>rfl
    have e2:∀t,Agr w w1 t->stepG.apply P I c j Z Y (retape t w)= .go (G (Frame.enter P f a' .normal) (c::j)) (retape t w1) (seen P c.fn new++ #[]):=by
     intro t d;simp only[stepG.apply,XY,m.2 t d,W,YR,VF];have y:=E.todo;cases Ay:c.todo with
     |nil=>rfl
     |cons i k=>
      rw[Ay]at y;generalize g.todo=k' at y;cases y with|cons hi _=>cases hi<;>rfl
    exact⟨_,_,_,_,_,_,_,_,e1,⟨m.1,e2⟩,⟨d,λe=>by exfalso;have:=hc.length;rw[<-e]at this;simp at this;omega⟩,.cons O x K,λ_=>rfl,H,n,C.foot0.sub T⟩
  |round hl d hr=>
   refine⟨_,_,_,_,_,_,_,_,by simp only[stepG.apply,XY,o,k1,M,YR,VF];rfl,⟨m.1,λt d=>by simp only[stepG.apply,XY,m.2 t d,k2,W,YR,VF];rfl⟩,
    Pq (.roundFr (F _ hl) (d.up F) hr),.cons O x K,λe=>by have:=hc.length;rw[<-e]at this;simp at this;omega,H,n,C.foot0.sub T⟩
 .left;right
  have Ps:=C.live
  refine⟨g.raise [{v,recovered:=ND}],V1,_,c.raise [{v:=v',recovered:=ND}],w1,_,by simp only[stepG.apply,XY,o,k1];rfl,by
   have m:Sem.runT P Y (retape w.tape w) #[]=(Result.halt (Halt.panic v') w1,new):=m;simp only[stepG.apply,XY,m,k2];rfl,MQ _ _,IL _ _,?_,H,n,Ps⟩
  rw[MS,MS];exact E.defers.up Ps
def mR{k:List Item}(h:ItsR P Gs ρ L k k')(id:Nat):(exitTo id k=Z/\exitTo id k'=Z)\/∃r a,exitTo id k=NA r/\exitTo id k'=NA a/\ItsR P Gs ρ L r a:=by
 induction h with
 |nil=>exact .inl ⟨rfl,rfl⟩
 | @cons i _ _ _ hi d c=>
   cases hi with
   |inBlock _=>
    simp only[exitTo];split
    .exact .inr ⟨_,_,rfl,rfl,d⟩
    .exact c
   |_=>exact c
def kW{t e:Array J}(h:AR ρ L t e)(a:Array Oper):yielded a e=yielded a t:=by
 funext j;unfold yielded;cases (a[j]?).bind (·.dst)with
 |none=>rfl
 |some d=>
  simp only[SK];cases hd:t[d]? with
  |none=>rw[h.getNone hd]
  |some v=>
   obtain⟨g,c,i⟩:=h.get hd;rw[c];cases i with
   |hole _ f=>cases g<;>first|rfl|(cases f;done)
   |_=>rfl
end
section
variable {P:U}{fs:Array Func}{Gs:Nat->Bool}{ρ:Nat->Nat}{L:Nat->Prop}
def AQ{o:Obj}(c:ORel ρ L I o o')(d:∀l,o= .loop l->ZE P fs Gs l):Q P fs (ZE P fs Gs) P.globals.size ρ L (λL a b=>b=ρ a/\L a) (newObj o) (newObj o'):=
 λ_ _=> .new c d λ_ _=> .pure ⟨rfl,.inr rfl⟩
def oS{t m:Array J}{i:Array Tmp}(E:AR ρ L t m)(K:RoR ρ L ro ro')(F:Tm P fs Gs fn)(H:Zn P Gs as=I)(C:Zn P Gs bd=I):
 Q P fs (ZE P fs Gs) P.globals.size ρ L (λL (x y:Nat×List Deferred)=>y.1=ρ x.1/\L x.1/\DsRel ρ L x.2 y.2) (Instr.enterLoop fn t i as bd ro) (Instr.enterLoop fn m i as bd ro'):=by
 have u:∀(f:Nat->Prop)(d n:Nat)(mk g:List Deferred),(∀b,L b->f b)->n=ρ d->f d->DsRel ρ f mk g->
  Q P fs (ZE P fs Gs) P.globals.size ρ f (λL (x y:Nat×List Deferred)=>y.1=ρ x.1/\L x.1/\DsRel ρ L x.2 y.2)
    (do pure (<-newObj (.loop {state:= .ready,pending:=Z,fn,tmps:=t,params:=i,assign:=as,body:=bd,defers:=d}),mk))
    (do pure (<-newObj (.loop {state:= .ready,pending:=Z,fn,tmps:=m,params:=i,assign:=as,body:=bd,defers:=n}),g)):=by
  intro f d n mk g j e o M;refine(AQ (.loop (l:=⟨.ready,Z,fn,t,i,as,bd,d⟩) (l':=⟨.ready,Z,fn,m,i,as,bd,n⟩) ⟨rfl,rfl,rfl,E.up j,rfl,rfl,rfl,o,e⟩) ?_).bind ?_
  .rintro l h;cases h;exact⟨F,H,C,λc h=>by cases h⟩
  .rintro a _ L2 g2 ⟨rfl,ha⟩;exact Q.pure ⟨rfl,ha,M.up g2⟩
 unfold Instr.enterLoop;cases K with
 |none=>
  refine(AQ .deferred (λl h=>by cases h)).bind ?_;rintro a _ f j ⟨rfl,h⟩;exact u f a _ _ _ j rfl h (.cons h .nil)
 | @some l o=>
   refine(LL l o).bind ?_;rintro r _ f j ⟨z,_⟩;exact u f r.defers _ _ _ j z.defers.2 z.defers.1 .nil
def qI{l:Nat}(c:L l):Q P fs (ZE P fs Gs) P.globals.size ρ L (TT (α:=Unit) (β:=Unit)) (Instr.beginRound l) (Instr.beginRound (ρ l)):=by
 unfold Instr.beginRound;refine(LL l c).bind ?_;rintro r e _ d ⟨a,f⟩;refine(DC l (d _ c) (.loop (l:={r with state:= .busy}) (l':={e with state:= .busy}) ⟨rfl,a.pending,a.fn,a.tmps,a.params,a.assign,a.body,a.defers⟩) (λ_ h=>by cases h;exact f) (λ_ _ _ h=>by cases h)).bind ?_;rintro _ _ _ _ _;rw[<-a.state];cases r.state with|ready=>exact Q.pure trivial|_=>exact V4 _ rfl
def ep{l:Nat}(e:L l){j:Option Code}(g:∀c,j=NA c->Zn P Gs c=I):Q P fs (ZE P fs Gs) P.globals.size ρ L (VR ρ) (Instr.endRound l j) (Instr.endRound (ρ l) j):=by
 unfold Instr.endRound;refine(LL l e).bind ?_;rintro r f _ i ⟨a,d⟩;refine(DC l (i _ e) (.loop (l:={r with state:=if j.isNone then .ready else .done,pending:=j}) (l':={f with state:=if j.isNone then .ready else .done,pending:=j}) ⟨rfl,rfl,a.fn,a.tmps,a.params,a.assign,a.body,a.defers⟩) (λ_ h=>by cases h;exact⟨d.1,d.2.1,d.2.2.1,g⟩) (λ_ _ _ h=>by cases h)).bind ?_;rintro _ _ _ _ _;exact Q.pure (.bool _)
def gR{l:Nat}(d:L l):Q P fs (ZE P fs Gs) P.globals.size ρ L (λ_ (x y:Option Code)=>y=x/\∀c,x=NA c->Zn P Gs c=I) (Instr.endLoop l) (Instr.endLoop (ρ l)):=by
 unfold Instr.endLoop;refine(LL l d).bind ?_;rintro r f _ g ⟨a,e⟩;rw[<-a.state,<-a.pending];refine Q.ite (UZ) (λ_=>Ku rfl) (λ_=> ?_);refine(DC l (g _ d) (.loop (l:={r with state:= .exhausted}) (l':={f with state:= .exhausted,pending:=r.pending}) ⟨rfl,rfl,a.fn,a.tmps,a.params,a.assign,a.body,a.defers⟩) (λ_ h=>by cases h;exact e) (λ_ _ _ h=>by cases h)).bind ?_;rintro _ _ _ _ _;exact Q.pure ⟨rfl,e.2.2.2⟩
def DW{b:Nat}(a:L b):Q P fs (ZE P fs Gs) P.globals.size ρ L (DsRel ρ) (Instr.takeDeferred b) (Instr.takeDeferred (ρ b)):=by
 unfold Instr.takeDeferred;intro _ N;refine .getObj a λL' o o' g _ c _=> ?_
 cases c with|deferred=>exact .setObj (g _ a) .noDefers (λ_ h=>by cases h) (λ_ _ _ h=>by cases h) (.pure .nil)|_=>exact .bad trivial
def pJ(e:List ResultVar):∀(L:Nat->Prop){t c:Array J},AR ρ L t c->Q P fs (ZE P fs Gs) P.globals.size ρ L (λL=>VsRel ρ L)
 (e.mapM fun
   | .tmp g=>pure (t.getD g NQ)
   | .cell a d=>do loadVar d (<-asAddr (t.getD a NQ)))
 (e.mapM fun
   | .tmp g=>pure (c.getD g NQ)
   | .cell a d=>do loadVar d (<-asAddr (c.getD a NQ))):=by
 induction e with
 |nil=>intro L t c _;simp only[List.mapM_nil];exact Q.pure .nil
 |cons r e u=>
  intro L t c f;simp only[List.mapM_cons];refine Q.bind (A:=VR ρ) ?_ ?_
  .cases r with
   |tmp i=>exact Q.pure (f.at i)
   |cell a d=>
    refine(AL (f.at a)).bind ?_;rintro x _ j h ⟨rfl,o⟩;exact aQ d x o
  .intro v v' j h hv;refine(u j (f.up h)).bind ?_;intro _ _ _ n m;exact Q.pure (.cons (hv.up n) m)
def fc(fn:Func){t g:Array J}(n:AR ρ L t g):Q P fs (ZE P fs Gs) P.globals.size ρ L (VR ρ) (results fn t) (results fn g):=by
 unfold results;refine Q.bind (A:=AR ρ) ?_ ?_
 .rw[RG,RG];refine Q.bind (A:=λL=>VsRel ρ L) (pJ fn.results.toList L n) ?_;intro e a m d f;refine Q.pure (AR.mk ?_ ?_)
  .clear d;simp only[UG];induction f<;>simp_all
  .intro i v v' h1 h2;simp only[YC]at h1 h2;clear d
   induction f generalizing i with
   |nil=>simp at h1
   |cons h _ j=>
    cases i with
    |zero=>simp at h1 h2;subst h1;subst h2;exact h
    |succ i=>simp at h1 h2;exact j i h1 h2
 .intro e a m d h;by_cases c:e.size=1
  .have hs':a.size=1:=h.1▸c;rw[dif_pos c,dif_pos hs'];have:=h.2 0 OA;rw[WM OA,WM OA]at this;exact Q.pure this
  .have hs':¬a.size=1:=h.1▸c;rw[dif_neg c,dif_neg hs'];exact Q.pure (.tuple h.1 h.2)
end
section
variable {P:U}{fs:Array Func}{Gs:Nat->Bool}{ρ:Nat->Nat}{L:Nat->Prop}{Fz:Nat->Prop}{w:NL}{bot bot':List NN}
def E8(f:Sim ρ P.globals.size Fz V w)(i:LoopsOk (ZE P fs Gs) V){e c:NN}{d a:List NN}{es:Array Event}(g:FrR P fs Gs ρ (Live V) e c)(j:CsR P fs Gs ρ (Live V) bot bot' d a)(h:d=bot->e.roundOf=Z):
 Lk P fs Gs ρ Fz bot bot' V w (.go (G e d) V es) (λt=> .go (G c a) (retape t w) #[]):=⟨_,_,_,_,_,_,_,_,rfl,⟨Fwd.refl w,λ_ _=>rfl⟩,Pq g,j,h,f.toSim0,i,Foot0.refl V w⟩
def CM:∀e∈seen P fn es++ #[],e∈es:=λe a=>Ql P _ _ e (by simpa using a)
def AG{m d:NN}{f c:List NN}{v i:J}(C:Sim0 ρ P.globals.size Fz V1 w1)(g:LoopsOk (ZE P fs Gs) V1)(x:Foot0 ρ Fz V w V1 w1 es2)(y:Fwd w w1){n:(Nat->Question->Nat)->GStep}(a:∀t,Agr w w1 t->n t=GStep.after es2 (doReturn P mn' d c Z i (retape t w1)))
 (j:m.kind= .normal/\d.kind= .normal)(h:CsR P fs Gs ρ (Live V1) bot bot' f c)(u:f≠bot)(E:VRel ρ (Live V1) v i):
 Lk P fs Gs ρ Fz bot bot' V w (GStep.after es1 (doReturn (Z6 P fs) mn m f Z v V1)) n:=by
 cases h with
 |nil=>exact absurd rfl u
 |cons z o h=>
  simp only[doReturn,j.1,j.2,GStep.after]at a⊢;exact⟨_,_,_,_,_,_,_,_,rfl,⟨y,a⟩,Pq (z.finish E),h,λe=>(Ug _ _).trans (o e),C,g,x.sub OD⟩
def WQ(p:U)(c:Bool)(a:NN)(d:List NN)(j:Option Code)(w:NL):GStep:=
 match a.roundOf with
 |none=>if j matches Z|some .ret then .go (G {a with mode:= .returning} d) w else .ended (.stuck "exit, goto: no such block or label" (a.pos p)) w
 |some l=>
  let (r,es):=(Instr.endRound l j).runT p w #[]
  GStep.after (seen p a.fn es) <| match r with
  | .ok v w=>doReturn p c a d Z v w
  | .halt _ w=> .ended (.stuck "range over a function: no such loop" (a.pos p)) w
def jK{x:Option Nat}(h:RoR ρ L Z x):x=Z:=by cases h;rfl
def AH{l:Nat}{x:Option Nat}(h:RoR ρ L (NA l) x):L l/\x=NA (ρ l):=by cases h with|some h=>exact⟨h,rfl⟩
def fG{i d:NN}{g a:List NN}(E:Sim ρ P.globals.size Fz V w)(x:LoopsOk (ZE P fs Gs) V)(f:FrR P fs Gs ρ (Live V) i d)(F:CsR P fs Gs ρ (Live V) bot bot' g a)(M:g=bot->i.roundOf=Z)
 (j:Option Code)(C:∀c,j=NA c->Zn P Gs c=I):
 Bd P fs Gs ρ Fz V w i.fn g a (WQ (Z6 P fs) mn i g j V) (λt=>WQ P mn' d a j (retape t w))\/Lk P fs Gs ρ Fz bot bot' V w (WQ (Z6 P fs) mn i g j V) (λt=>WQ P mn' d a j (retape t w)):=by
 have n:=f.round;cases h1:i.roundOf with
 |none=>
  rw[h1]at n;have o:=jK n;unfold WQ;rw[h1,o];dsimp only;clear C;generalize (match j with|none=>I|some Code.ret=>I|_=>ND)=t;cases t with
  |true=>
   right
   simp only[XY];exact E8 E x ⟨f.fn,f.tm,f.tmps,f.todo,f.defers,⟨rfl,.inr rfl⟩,f.kind,.none⟩ F (λ_=>rfl)
  |false=>left;simp only[YR,VF];exact Vw
 |some l=>
  rw[h1]at n;obtain⟨X,o⟩:=AH n;unfold WQ;rw[h1,o];dsimp only;rcases OM (ep (fs:=fs) (P:=P) (Gs:=Gs) (ρ:=ρ) X C) E x with⟨h,V1,es,m,_⟩|⟨V1,w1,new,es,W,u,y,⟨v,H,_,m,z,T,Y⟩|⟨v,H,m,_⟩⟩
  .left;simp only[m,GStep.after];exact Vw
  .right
   simp only[m];have O:g≠bot:=λe=>by have:=M e;rw[h1]at this;cases this
   exact AG (mn':=mn') (es2:=seen P d.fn new) W.toSim0 u (y.foot0.sub λe he=>Ql P _ _ e he) z.1 (λt K=>by simp only[z.2 t K]) f.kind (F.up y.live) O (Y.up T)
  .left;simp only[m,GStep.after];exact Vw
end
end Go.Nk
