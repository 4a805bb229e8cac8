import Derived.Test.YthahddndgbpooaaGreatDoorNk00
set_option linter.all false
open Go
open Go renaming Value->I,TypeId->J,Addr->NP,Program->NO,undef->NQ
open Option renaming some->U,none->NB
open Bool renaming true->Z,false->ND
variable {z z':Array I}{Λ:Loop->Prop}{n:Nat}{L L':Nat->Prop}{P:NO}{t:J}{x x' y y':I}
namespace Go.Nk
variable [Ban]
section
variable {fs:Array Func}{G:Nat}{ρ:Nat->Nat}
variable {α β γ δ:Type}{A:(Nat->Prop)->α->β->Prop}{B:(Nat->Prop)->γ->δ->Prop}
def qW(t:J)(b:Ui P t=Z):Q P fs Λ G ρ L (VR ρ) (Instr.alloc t Z (.tuple #[])) (Instr.alloc t Z (.tuple #[])):=by
 unfold Instr.alloc;refine(MH t b).bind ?_;intro z z' _ _ b;refine(CL t b).bind ?_;rintro a _ _ _ ⟨rfl,a⟩;exact Q.pure (.ptr a)
def q_box(t:J){v b:I}(c:VRel ρ L v b):Q P fs Λ G ρ L (VR ρ) (Instr.box t v) (Instr.box t b):=by
 unfold Instr.box;refine(CL t c).bind ?_;rintro a _ _ _ ⟨rfl,a⟩;exact Q.pure (.ptr a)
inductive PsRel(ρ:Nat->Nat)(L:Nat->Prop):List (Nat×I)->List (Nat×I)->Prop
 |nil:PsRel ρ L [] []
 |cons {i v v' ps ps'}:VRel ρ L v v'->PsRel ρ L ps ps'->PsRel ρ L ((i,v)::ps) ((i,v')::ps')
def PsRel.up{L':Nat->Prop}{l a:List (Nat×I)}(h:PsRel ρ L l a)(d:∀b,L b->L' b):PsRel ρ L' l a:=by
 induction h with|nil=>exact .nil|cons h _ c=>exact .cons (h.up d) c
def jU(c:Nat):∀{l d:List I}(k:Nat){b a:Array I},VsRel ρ L l d->AR ρ L b a->
 AR ρ L ((l.zipIdx k).foldl (λb (x:I×Nat)=>b.setIfInBounds (c+x.2) x.1) b) ((d.zipIdx k).foldl (λb (x:I×Nat)=>b.setIfInBounds (c+x.2) x.1) a):=by
 intro l
 induction l with
 |nil=>intro d k b a h e;cases h;exact e
 |cons v l g=>
  intro d k b a h e;cases h with|cons i f=>simp only[List.zipIdx_cons,VU];exact g (k+1) f (e.set _ i)
def CR(cells:Array I)(b:Nat)(a:Array I):cells.zipIdx.foldl (λa (c,j)=>a.setIfInBounds (b+j) c) a=(cells.toList.zipIdx 0).foldl (λa (x:I×Nat)=>a.setIfInBounds (b+x.2) x.1) a:=by
 rw[<-QS,Array.toList_zipIdx]
def EB(c:Nat->Option (Nat×Nat)):∀{f d:List (Nat×I)}{g e:Array I},PsRel ρ L f d->AR ρ L g e->
 (Instr.fill c g f=NB)\/∃a b,Instr.fill c g f=U a/\Instr.fill c e d=U b/\AR ρ L a b:=by
 intro f
 induction f with
 |nil=>intro d g e h j;cases h;exact .inr ⟨_,_,rfl,rfl,j⟩
 |cons p f C=>
  intro d g e h j;cases h with
  | @cons i v _ _ d w u=>
    simp only[Instr.fill];cases c i with
    |none=>exact .inl rfl
    |some x=>
     obtain⟨m,_⟩:=x;have o:=w.cells;simp only[<-o.1,<-j.1];split
     .exact .inl rfl
     .refine C u ?_;rw[CR,CR];exact jU m 0 o.list j
def mb{α β:Type}(f:α->Sem β)(c:∀(L:Nat->Prop) x,Q P fs Λ G ρ L EQ (f x) (f x)):∀(l:List α)(L:Nat->Prop),Q P fs Λ G ρ L EQ (l.mapM f) (l.mapM f):=by
 intro l
 induction l with
 |nil=>intro L;exact Q.pure rfl
 |cons x l d=>
  intro L;rw[List.mapM_cons];refine(c L x).bind ?_;rintro a _ e _ rfl;refine(d e).bind ?_;rintro b _ _ _ rfl;exact Q.pure rfl
def mF{α β:Type}(f:α->Sem β)(b:∀(L:Nat->Prop) x,Q P fs Λ G ρ L EQ (f x) (f x))(l:Array α):Q P fs Λ G ρ L EQ (l.mapM f) (l.mapM f):=by
 rw[RG];refine(mb f b _ _).bind ?_;rintro a _ _ _ rfl;exact Q.pure rfl
def fg(t:J){E p:Array (Nat×I)}(w:Ui P t=Z)(h:PsRel ρ L E.toList p.toList):Q P fs Λ G ρ L (VR ρ) (Instr.build t E) (Instr.build t p):=by
 unfold Instr.build;refine(MH t w).bind ?_;intro z z' _ K w;refine(Za t).bind ?_;rintro d _ _ C ⟨rfl,_⟩;have o:=(w.up C).cells;have F:=(h.up K).up C;cases d with
 |struct c=>
  refine(mF _ (λL f=>(WH f.type).bind (B:=EQ) λ_ _ _ _ h=>Q.pure (by rw[EQ,h])) c).bind ?_;rintro M _ H u rfl;rcases EB (λi=>M[i]?) (F.up u) (o.up u)with e|⟨a,b,e1,e2,m⟩
  .rw[e];exact Q.stuck
  .rw[e1,e2];exact Q.pure (.agg m.1 m.2)
 |array n j=>
  refine(WH j).bind ?_;rintro g _ H u rfl;rcases EB (λi=>U (i*g,g)) (F.up u) (o.up u)with e|⟨a,b,e1,e2,m⟩
  .rw[e];exact Q.stuck
  .rw[e1,e2];exact Q.pure (.agg m.1 m.2)
 |_=>exact Q.stuck
def VRel.dflt:VRel ρ L default default:=by
 show VRel ρ L (Value.bool _) (Value.bool _);exact .bool _
def HE(b:AR ρ L z z'):AR ρ L ((Array.range n).map (λi=>z[i % z.size]!)) ((Array.range n).map (λi=>z'[i % z'.size]!)):=by
 refine AR.mk OD λi v _ e c=> ?_
 simp only[Array.getElem?_map,VA]at e c;obtain⟨x,f,rfl⟩:=e;obtain⟨y,d,rfl⟩:=c;rw[f]at d;cases d;rw[<-b.1];by_cases a:x % z.size<z.size
 .exact b.get! a
 .have Hk:¬x % z.size<z'.size:=by rw[<-b.1];exact a
  rw[getElem!_neg z _ a,getElem!_neg z' _ Hk];exact .dflt
def mL(t:J)(f:Nat){o j:Array (Nat×I)}(O:∀e,P.underlying t=U (.slice e)->Ui P e=Z)(h:PsRel ρ L o.toList j.toList):Q P fs Λ G ρ L (VR ρ) (Instr.buildSlice t f o) (Instr.buildSlice t f j):=by
 unfold Instr.buildSlice;refine(Za t).bind ?_;rintro d _ _ K ⟨rfl,C⟩;cases d with
 |slice g=>
  refine(WH g).bind ?_;rintro c _ X E rfl;dsimp only;split
  .exact Q.bindUnsupported OD
  .have fin:∀{L':Nat->Prop}(z z':Array I),(∀x,X x->L' x)->AR ρ L' z z'->Q P fs Λ G ρ L' (VR ρ)
    (match Instr.fill (λi=>U (i*c,c)) (Array.map (λx=>z[x % z.size]!) (Array.range (f*c))) o.toList with
      |some cells=>do let a<-newRow g cells;Pure.pure (Value.slice (U a) f f)
      |_=>Go.stuck "buildSlice: a part of the wrong size")
    (match Instr.fill (λi=>U (i*c,c)) (Array.map (λx=>z'[x % z'.size]!) (Array.range (f*c))) j.toList with
      |some cells=>do let a<-newRow g cells;Pure.pure (Value.slice (U a) f f)
      |_=>Go.stuck "buildSlice: a part of the wrong size"):=by
    intro L' z z' u m;rcases EB (λi=>U (i*c,c)) (((h.up K).up E).up u) (HE (n:=f*c) m)with e|⟨a,b,e1,e2,M⟩
    .rw[e];exact Q.stuck
    .rw[e1,e2];refine(LC g M).bind ?_;rintro _ _ H w ⟨rfl,W⟩;exact Q.pure (.slice f f W)
   split
   .refine Q.bind (A:=AR ρ) (Q.pure AR.nil) ?_;intro z z' F p m;exact fin z z' p m
   .refine(MH g (O _ C)).bind ?_;intro v _ F p V;refine Q.bind (A:=AR ρ) (Q.pure V.cells) ?_;intro z z' H w m;exact fin z z' (λx T=>w x (p x T)) m
 |_=>exact Q.stuck
def pw(t:J){v b:I}(c:VRel ρ L v b):Q P fs Λ G ρ L (VR ρ) (Instr.loadAt t v) (Instr.loadAt t b):=by
 unfold Instr.loadAt;refine(KO c).bind ?_;rintro a _ _ _ ⟨rfl,d⟩;exact aQ t a d
def pO(t:J){v b x x':I}(c:VRel ρ L v b)(f:VRel ρ L x x'):Q P fs Λ G ρ L (TT (α:=Unit) (β:=Unit)) (Instr.storeAt t v x) (Instr.storeAt t b x'):=by
 unfold Instr.storeAt;refine(KO c).bind ?_;rintro a _ _ e ⟨rfl,d⟩;exact pI t a d (f.up e)
def fh(a:NP)(f:Field)(c:L a.block)(b:∀i,P.info? f.type=U i->i.size≠0):Q P fs Λ G ρ L (AdR ρ) (fieldPlace a f) (fieldPlace (Zl ρ a) f):=by
 unfold fieldPlace sizeOf;rw[bind_assoc,bind_assoc];refine(Qd _).bind ?_;rintro i _ _ d ⟨rfl,hi⟩;rw[pure_bind,pure_bind,XB (b _ hi),XB (b _ hi)];exact Q.pure ⟨(PS a _).symm,by rw[Pj];exact d _ c⟩
def ns(s:J){v e:I}(i:Nat)(h:VRel ρ L v e)(m:∀fs f,P.underlying s=U (.struct fs)->fs[i]? =U f->∀i,P.info? f.type=U i->i.size≠0):
 Q P fs Λ G ρ L (VR ρ) (Instr.fieldAt s v i) (Instr.fieldAt s e i):=by
 unfold Instr.fieldAt;refine(Za s).bind ?_;rintro d _ _ j ⟨rfl,g⟩;cases d with
 |struct b=>
  dsimp only;cases hf:b[i]? with
  |none=>exact Q.stuck
  |some f=>
   refine(KO (h.up j)).bind ?_;rintro a _ _ _ ⟨rfl,c⟩;refine(fh a f c (m _ _ g hf)).bind ?_;rintro a _ _ _ ⟨rfl,c⟩;exact Q.pure (.ptr c)
 |_=>exact Q.stuck
def nF(t:J){v b:I}(i:Nat)(e:VRel ρ L v b):Q P fs Λ G ρ L (VR ρ) (Instr.field t v i) (Instr.field t b i):=by
 unfold Instr.field;refine(Za t).bind ?_;rintro d _ _ g ⟨rfl,_⟩;cases d with
 |struct a=>
  dsimp only;cases hf:a[i]? with
  |none=>exact Q.stuck
  |some f=>
   refine(qk (e.up g)).bind ?_;intro _ _ _ _ c;exact Tn f.type c f.offset
 |_=>exact Q.stuck
def ju(t:J){v F i K:I}(V:VRel ρ L v F)(hi:VRel ρ L i K):Q P fs Λ G ρ L (VR ρ) (Instr.indexAt t v i) (Instr.indexAt t F K):=by
 unfold Instr.indexAt;refine(If hi).bind ?_;rintro⟨k,n⟩ _ _ O ⟨rfl,_,_⟩;dsimp only;refine(Za t).bind ?_;rintro d _ W M ⟨rfl,u⟩;have E:=(V.up O).up M
 have j:∀(p:Nat->Prop)(f:Option NP)(e:Nat)(c:J),(∀x,W x->p x)->(∀a,f=U a->p a.block)->∀g:Bool,Q P fs Λ G ρ p (VR ρ)
  (match f with
    |some a=>if 0<=n/\n<e then do let s<-sizeOf c;Pure.pure (Value.pointer (U (a.add (n.toNat*s))))
     else if g then Go.unsupported (.noEntry "op/indexAddr.an index out of range at an array of length 0 or 1 (ledger 616)")else boundsPanic k n e .index
    |none=>boundsPanic k n 0 .index)
  (match f.map (Zl ρ)with
    |some a=>if 0<=n/\n<e then do let s<-sizeOf c;Pure.pure (Value.pointer (U (a.add (n.toNat*s))))
     else if g then Go.unsupported (.noEntry "op/indexAddr.an index out of range at an array of length 0 or 1 (ledger 616)")else boundsPanic k n e .index
    |none=>boundsPanic k n 0 .index):=by
  intro p f e c H m g;cases f with
  |none=>exact Ly _ _ _ _
  |some a=>
   dsimp only[Option.map_some];split
   .refine(WH c).bind ?_;rintro s _ o h rfl;rw[<-PS];exact Q.pure (.ptr (by rw[Pj];exact h _ (m a rfl)))
   .split
    .exact Q.unsupported OD
    .exact Ly _ _ _ _
 cases d with
 |array e c=>
  dsimp only;refine(KO E).bind ?_;rintro a _ p H ⟨rfl,C⟩;rw[pure_bind,pure_bind];refine(Za t).bind ?_;rintro d _ o h ⟨rfl,u⟩;exact j o (U a) e c (λx T=>h x (H x T)) (λb m=>by cases m;exact h _ C) _
 |slice c=>
  cases E with
  |nilSlice e w=>
   dsimp only;rw[pure_bind];refine(Za t).bind ?_;rintro d _ o h ⟨rfl,u⟩;exact j o NB e c h (λb m=>by cases m) ND
  |slice e w C=>
   dsimp only;rw[pure_bind,pure_bind];refine(Za t).bind ?_;rintro d _ o h ⟨rfl,u⟩;exact j o (U _) e c h (λb m=>by cases m;exact h _ C) _
  |_=>exact Q.bindStuck
 |_=>exact Q.bindStuck
def GG{v a:I}(b:VRel ρ L v a)(y:Nat)(c:BoundsCode):Q P fs Λ G ρ L EQ (Instr.sliceBound v y c) (Instr.sliceBound a y c):=by
 unfold Instr.sliceBound;refine(If b).bind ?_;rintro⟨k,n⟩ _ _ _ ⟨rfl,_,_⟩;dsimp only;split
 .exact Q.pure rfl
 .exact Ly _ _ _ _
inductive OvRel(ρ:Nat->Nat)(L:Nat->Prop):Option I->Option I->Prop
 |none:OvRel ρ L NB NB
 |some {v v'}:VRel ρ L v v'->OvRel ρ L (U v) (U v')
def OvRel.up{L':Nat->Prop}{a b:Option I}(h:OvRel ρ L a b)(c:∀b,L b->L' b):OvRel ρ L' a b:=by
 cases h with|none=>exact .none|some h=>exact .some (h.up c)
def KJ(isS:Bool)(e d:Nat){lo a hi c:Option I}(g:OvRel ρ L lo a)(i:OvRel ρ L hi c):
 Q P fs Λ G ρ L EQ (Instr.sliceBounds isS e d lo hi NB) (Instr.sliceBounds isS e d a c NB):=by
 unfold Instr.sliceBounds;dsimp only;rw[pure_bind,pure_bind];cases i with
 |none=>
  dsimp only;rw[pure_bind,pure_bind];cases g with
  |none=>exact Q.pure rfl
  |some b=>
   refine(GG b _ _).bind ?_;rintro l _ j f rfl;exact Q.pure rfl
 |some b=>
  refine(GG b _ _).bind ?_;rintro h _ j f rfl;cases g with
  |none=>exact Q.pure rfl
  |some b=>
   refine(GG (b.up f) _ _).bind ?_;rintro l _ _ _ rfl;exact Q.pure rfl
def fR(t:J){v O:I}{lo o hi i:Option I}(hv:VRel ρ L v O)(E:OvRel ρ L lo o)(C:OvRel ρ L hi i):
 Q P fs Λ G ρ L (VR ρ) (Instr.slice t v lo hi NB) (Instr.slice t O o i NB):=by
 unfold Instr.slice;refine(Za t).bind ?_;rintro d _ L1 j ⟨rfl,W⟩;have K:=hv.up j;cases d with
 |string=>
  cases K with
  |string s=>
   dsimp only;simp only[Option.isSome_none,YR,VF];refine(KJ _ _ _ (E.up j) (C.up j)).bind ?_;rintro⟨l,h,m⟩ _ p c rfl;exact Q.pure (.string _)
  |_=>exact Q.stuck
 |slice b=>
  cases K with
  |nilSlice M F=>
   dsimp only;refine(KJ _ _ _ (E.up j) (C.up j)).bind ?_;rintro⟨l,h,m⟩ _ p c rfl;refine(WH b).bind ?_;rintro s _ V u rfl;refine Q.pure ?_;dsimp only[Option.map_none];split<;>exact .nilSlice _ _
  |slice M F w=>
   dsimp only;refine(KJ _ _ _ (E.up j) (C.up j)).bind ?_;rintro⟨l,h,m⟩ _ p c rfl;refine(WH b).bind ?_;rintro s _ V u rfl;refine Q.pure ?_;dsimp only[Option.map_some];split
   .exact .slice _ _ (u _ (c _ w))
   .rw[<-PS];exact .slice _ _ (by rw[Pj];exact u _ (c _ w))
  |_=>exact Q.stuck
 |pointer arr=>
  have H:∀{a:NP}(p:Nat->Prop),(∀x,L1 x->p x)->p a.block->Q P fs Λ G ρ p (VR ρ)
   (do let .array n b<-underlying arr|Go.stuck "Slice: array type expected"
       let (l,h,m)<-Instr.sliceBounds ND n n lo hi NB
       let size<-sizeOf b
       Pure.pure (.slice (U (if m=l then a else a.add (l*size))) (h - l) (m - l)))
   (do let .array n b<-underlying arr|Go.stuck "Slice: array type expected"
       let (l,h,m)<-Instr.sliceBounds ND n n o i NB
       let size<-sizeOf b
       Pure.pure (.slice (U (if m=l then Zl ρ a else(Zl ρ a).add (l*size))) (h - l) (m - l))):=by
   intro a p c w;refine(Za arr).bind ?_;rintro d _ V u ⟨rfl,W⟩;cases d with
   |array n b=>
    dsimp only;refine(KJ _ _ _ (((E.up j).up c).up u) (((C.up j).up c).up u)).bind ?_;rintro⟨l,h,m⟩ _ _ X rfl;refine(WH b).bind ?_;rintro s _ _ Y rfl;refine Q.pure ?_;dsimp only;have T:=Y _ (X _ (u _ w));split
    .exact .slice _ _ T
    .rw[<-PS];exact .slice _ _ (by rw[Pj];exact T)
   |_=>exact Q.stuck
  have e:=(AL (P:=P) (fs:=fs) (G:=G) K).bind (B:=VR ρ) (f:=λa=>(do
   let .array n b<-underlying arr|Go.stuck "Slice: array type expected"
   let (l,h,m)<-Instr.sliceBounds ND n n lo hi NB
   let size<-sizeOf b
   Pure.pure (.slice (U (if m=l then a else a.add (l*size))) (h - l) (m - l)))) (g:=λa=>(do
   let .array n b<-underlying arr|Go.stuck "Slice: array type expected"
   let (l,h,m)<-Instr.sliceBounds ND n n o i NB
   let size<-sizeOf b
   Pure.pure (.slice (U (if m=l then a else a.add (l*size))) (h - l) (m - l)))) (by
   rintro a _ p c ⟨rfl,w⟩;exact H p c w)
  exact e
 |_=>exact Q.stuck
def nw(t:J){v g:I}{lo f hi c:Option I}(u:VRel ρ L v g)(p:OvRel ρ L lo f)(i:OvRel ρ L hi c):
 Q P fs Λ G ρ L (VR ρ) (Instr.sliceAt t v lo hi NB) (Instr.sliceAt t g f c NB):=by
 unfold Instr.sliceAt;refine(Za t).bind ?_;rintro d _ _ b ⟨rfl,_⟩;cases d with
 |array n e=>
  dsimp only;refine(KO (u.up b)).bind ?_;rintro a _ _ o ⟨rfl,C⟩;refine(KJ _ _ _ ((p.up b).up o) ((i.up b).up o)).bind ?_;rintro⟨l,h,m⟩ _ _ E rfl;refine(WH e).bind ?_;rintro s _ _ w rfl;refine Q.pure ?_;dsimp only;have j:=w _ (E _ C);split
  .exact .slice _ _ j
  .rw[<-PS];exact .slice _ _ (by rw[Pj];exact j)
 |_=>exact fR t (u.up b) (p.up b) (i.up b)
def Ku{e:RuntimeError}(h:lightE e=Z){f:γ->Sem α}{g:δ->Sem β}:Q P fs Λ G ρ L A ((runtimePanic e:Sem γ)>>=f) ((runtimePanic e:Sem δ)>>=g):=
 Q.bind (A:=λ_ _ _=>False) (V4 e h) λ_ _ _ _ h=>h.elim
def qE(t:J){l m c h:I}(E:VRel ρ L l m)(K:VRel ρ L c h)(C:∀e,P.underlying t=U (.slice e)->Ui P e=Z):Q P fs Λ G ρ L (VR ρ) (Instr.makeSlice t l c) (Instr.makeSlice t m h):=by
 unfold Instr.makeSlice;refine(Za t).bind ?_;rintro d _ _ j ⟨rfl,o⟩;cases d with
 |slice b=>
  dsimp only;refine(Iu (E.up j)).bind ?_;rintro _ _ _ u rfl;refine(Iu ((K.up j).up u)).bind ?_;rintro _ _ _ _ rfl;refine(Qd b).bind ?_;rintro i _ _ _ ⟨rfl,hi⟩;have g:=C _ o;split
  .split
   .exact Ku rfl
   .split
    .exact Ku rfl
    .refine Q.choose.bind ?_;rintro n _ p F rfl;exact Ku rfl
  .refine(C4 _).bind ?_;intro _ _ p F _;refine(WH b).bind ?_;rintro s _ _ _ rfl;split
   .rw[pure_bind];refine(LC b (HE AR.nil)).bind ?_;rintro a _ L7 w ⟨rfl,f⟩;exact Q.pure (.slice _ _ f)
   .refine(MH b g).bind ?_;intro v _ L7 w H;rw[pure_bind,pure_bind];refine(LC b (HE H.cells)).bind ?_;rintro a _ _ _ ⟨rfl,f⟩;exact Q.pure (.slice _ _ f)
 |_=>exact Q.stuck
def rp(t:J){v c i e:I}(m:VRel ρ L v c)(hi:VRel ρ L i e):Q P fs Λ G ρ L (VR ρ) (Instr.index t v i) (Instr.index t c e):=by
 unfold Instr.index;refine(If hi).bind ?_;rintro⟨k,n⟩ _ _ j ⟨rfl,_,_⟩;dsimp only;refine(Za t).bind ?_;rintro d _ _ g ⟨rfl,_⟩;have b:=(m.up j).up g;cases d with
 |array _ a=>
  cases b with
  |agg h f=>
   dsimp only;split
   .refine(WH a).bind ?_;rintro s _ _ o rfl;exact Tn a (AR.up ⟨h,f⟩ o) _
   .exact Ly _ _ _ _
  |_=>exact Q.stuck
 |string=>
  cases b with
  |string s=>
   dsimp only;split
   .exact Q.pure (.int _ _)
   .exact Ly _ _ _ _
  |_=>exact Q.stuck
 |_=>exact Q.stuck
def nE{v b:I}(i:Nat)(e:VRel ρ L v b):Q P fs Λ G ρ L (VR ρ) (Instr.extract v i) (Instr.extract b i):=by
 unfold Instr.extract;cases e with
 | @tuple d c g f=>
   dsimp only;have h:AR ρ L d c:=⟨g,f⟩;cases hc:d[i]? with
   |none=>exact Q.stuck
   |some v=>
    obtain⟨b,a,j⟩:=h.get hc;rw[a];exact Q.pure j
 |_=>exact Q.stuck
end
def PZ(P:NO)(fs:Array Func):∀d,byteOfCell (Z6 P fs) d=byteOfCell P d
 |0=>rfl
 |d+1=>by
  funext t _;simp only[byteOfCell,PZ P fs d,Xb,WZ,U0];rfl
def aM(P:NO)(fs:Array Func):∀d,cellOfByte (Z6 P fs) d=cellOfByte P d
 |0=>rfl
 |d+1=>by
  funext t _;simp only[cellOfByte,aM P fs d,Xb,WZ,U0];rfl
def EK(P:NO)(fs:Array Func):cellAtBytes (Z6 P fs)=cellAtBytes P:=by
 funext d e c o b;simp only[cellAtBytes,PZ,aM,WZ,U0];rfl
section
variable {fs:Array Func}{ρ:Nat->Nat}
variable {α β γ δ:Type}{A:(Nat->Prop)->α->β->Prop}{B:(Nat->Prop)->γ->δ->Prop}
def Q.ite{c b:Prop}[i:Decidable c][j:Decidable b](h:c↔b){X e:Sem α}{Y d:Sem β}(g:c->Q P fs Λ P.globals.size ρ L A X Y)(f:¬c->Q P fs Λ P.globals.size ρ L A e d):Q P fs Λ P.globals.size ρ L A (if c then X else e) (if b then Y else d):=by
 by_cases a:c
 .rw[YZ a,YZ (h.1 a)];exact g a
 .rw[XB a,XB (λx=>a (h.2 x))];exact f a
def ai(r:Nat)(c:L r):Q P fs Λ P.globals.size ρ L (λ_ a b=>a=NB/\b=NB) (viewAt r) (viewAt (ρ r)):=by
 unfold viewAt;intro _ N;refine .shape c λs=> ?_
 cases s with
 |some x=>exact .pure ⟨rfl,rfl⟩
 |none=>
  refine .getObj c λL' o _ _ _ d _=> ?_
  cases d<;>exact .pure ⟨rfl,rfl⟩
inductive NumR(ρ:Nat->Nat)(L:Nat->Prop):Option (NP×Bool)->Option (NP×Bool)->Prop
 |none:NumR ρ L NB NB
 |some {a l}:L a.block->NumR ρ L (U (a,l)) (U (Zl ρ a,l))
def AA(r:Nat)(a:L r):Q P fs Λ P.globals.size ρ L (NumR ρ) (numberAt r) (numberAt (ρ r)):=by
 unfold numberAt;intro _ N;refine .shape a λs=> ?_
 cases s with
 |some x=>exact .pure .none
 |none=>
  refine .getObj a λL' o _ _ _ b _=> ?_
  cases b with|number h=>exact .pure (.some h)|_=>exact .pure .none
def Qb(a:NP)(b:L a.block):Q P fs Λ P.globals.size ρ L (λL x y=>y=(Zl ρ x.1,x.2)/\L x.1.block) (behindNumber a) (behindNumber (Zl ρ a)):=by
 unfold behindNumber;refine(AA a.block b).bind ?_;intro x y _ c h;cases h with|none=>exact Q.pure ⟨rfl,c _ b⟩|some h=>exact Q.pure ⟨rfl,h⟩
def kA(a:NP)(b:L a.block):Q P fs Λ P.globals.size ρ L (TT (α:=Unit) (β:=Unit)) (noView a) (noView (Zl ρ a)):=by
 unfold noView;refine(ai a.block b).bind ?_;rintro x y _ _ ⟨rfl,rfl⟩;exact Q.pure trivial
def KN(a:NP)(c:L a.block):Q P fs Λ P.globals.size ρ L EQ (byteOf a) (byteOf (Zl ρ a)):=by
 unfold byteOf;have e:(Zl ρ a).spot=a.spot:=rfl;rw[e];cases a.spot with
 |some s=>exact Q.pure rfl
 |none=>
  dsimp only;refine Q.program ?_;refine(kA a c).bind ?_;intro _ _ f d _;intro g N;refine .shape (d _ c) λs=> ?_
  cases s with
  |none=>exact .bad trivial
  |some x=>
   dsimp only[WZ,U0,Tu];rw[PZ];dsimp only[Sem.bind];refine(?_:Q P fs Λ P.globals.size ρ f EQ _ _) g N;dsimp only[Zl];refine Q.ite UZ (λh=>Q.pure rfl) (λh=> ?_)
   .cases byteOfCell P P.depth x.fst (a.off % P.cellsOf x.fst)with
    |some b=>exact Q.pure rfl
    |none=>exact Q.stuck
def Good.block{G:Nat}(d:Good ρ G L){a b:NP}(c:L a.block)(e:L b.block):(ρ a.block=ρ b.block)↔(a.block=b.block):=⟨d.1 _ _ c e,λh=>by rw[h]⟩
def Good.ge{G:Nat}(a:Good ρ G L){b:Nat}(c:L b):(G<=ρ b)↔(G<=b):=by
 have:=a.2 b c;constructor<;>intro h<;>omega
def Good.addr{G:Nat}(e:Good ρ G L){a b:NP}(d:L a.block)(i:L b.block):(Zl ρ a=Zl ρ b)↔(a=b):=by
 constructor
 .intro h;obtain⟨c,_,_⟩:=a;obtain⟨g,_,_⟩:=b;simp only[Zl,Addr.mk.injEq]at h;obtain⟨f,rfl,rfl⟩:=h;have:=e.1 c g d i f;subst this;rfl
 .rintro rfl;rfl
def CB(a b:NP)(c:L a.block)(e:L b.block):Q P fs Λ P.globals.size ρ L EQ (Op.twoPlaces a b) (Op.twoPlaces (Zl ρ a) (Zl ρ b)):=by
 unfold Op.twoPlaces;refine Q.good λd=>Q.program ?_
 refine Q.ite ?_ (λ_=>Q.bindUnsupported (u:= .addressObserved) OD) (λ_=> ?_)
 .have h1:=d.block c e;have f:=d.ge c;simp only[Zl,GS,UF,bne_iff_ne,ne_eq,XE,ge_iff_le];rw[h1,f]
 .refine(KN a c).bind ?_;rintro x _ _ d rfl;refine(KN b (d _ e)).bind ?_;rintro y _ _ _ rfl;exact Q.pure rfl
def qh(k:IntKind)(a b:NP)(c:L a.block)(d:L b.block):Q P fs Λ P.globals.size ρ L (VR ρ) (Op.addrSub k a b) (Op.addrSub k (Zl ρ a) (Zl ρ b)):=by
 unfold Op.addrSub;refine(CB a b c d).bind ?_;rintro⟨x,y⟩ _ _ _ rfl;exact Q.pure (.int _ _)
def nZ(op:BinOp)(a b:NP)(c:L a.block)(d:L b.block):Q P fs Λ P.globals.size ρ L (VR ρ) (Op.addrCmp op a b) (Op.addrCmp op (Zl ρ a) (Zl ρ b)):=by
 unfold Op.addrCmp;refine(CB a b c d).bind ?_;rintro⟨x,y⟩ _ _ _ rfl;cases op<;>first|exact Q.pure (.bool _)|exact Q.unsupported OD
def BI(k:IntKind)(a:NP)(n:Int)(b:L a.block):Q P fs Λ P.globals.size ρ L (VR ρ) (Op.addrMod k a n) (Op.addrMod k (Zl ρ a) n):=by
 unfold Op.addrMod;intro d N;refine .shape b λs=> ?_
 cases s with
 |none=>exact .bad trivial
 |some x=>
  dsimp only[Sem.bind];refine(?_:Q P fs Λ P.globals.size ρ L (VR ρ) _ _) d N;refine(Qd _).bind ?_;rintro i _ _ c ⟨rfl,hi⟩;refine Q.ite UZ (λ_=>Q.bindUnsupported (u:= .addressObserved) OD) (λ_=> ?_);refine(KN a (c _ b)).bind ?_;rintro x _ _ _ rfl;exact Q.pure (.int _ _)
def PtrR(ρ:Nat->Nat)(L:Nat->Prop)(v b:I):Prop:=∃a,v= .pointer (U a)/\b= .pointer (U (Zl ρ a))/\L a.block
def PtrR.vrel{v b:I}(h:PtrR ρ L v b):VRel ρ L v b:=by obtain⟨a,rfl,rfl,h⟩:=h;exact .ptr h
def DS(t:J){x x' y y':I}(g:VRel ρ L x x')(e:VRel ρ L y y'):Q P fs Λ P.globals.size ρ L (PtrR ρ) (Builtin.unsafeAdd_ #[] t #[x,y]) (Builtin.unsafeAdd_ #[] t #[x',y']):=by
 unfold Builtin.unsafeAdd_;cases g with
 | @ptr a c=>
   dsimp only;refine(Iu e).bind ?_;rintro n _ d b rfl;refine Q.ite UZ (λ_=> ?_) (λ_=>Q.ite UZ (λ_=>Q.bindUnsupported (u:= .unsafePointer _) OD) λ_=> ?_)
   .refine(ai a.block (b _ c)).bind ?_;rintro _ _ _ f ⟨rfl,rfl⟩;exact Q.pure ⟨_,rfl,rfl,f _ (b _ c)⟩
   .intro hK N;refine .shape (b _ c) λs=> ?_
    cases s with
    |none=>exact .bad trivial
    |some s=>
     refine .program ?_;dsimp only[Sem.bind,Tu,WZ];rw[EK];refine(?_:Q P fs Λ P.globals.size ρ d (PtrR ρ) _ _) hK N;show Q P fs Λ P.globals.size ρ d (PtrR ρ) (match cellAtBytes P P.depth s.1 (s.2 / P.cellsOf s.1) a.off n with|some off=>_|none=>_) (match cellAtBytes P P.depth s.1 (s.2 / P.cellsOf s.1) a.off n with|some off=>_|none=>_);cases cellAtBytes P P.depth s.1 (s.2 / P.cellsOf s.1) a.off n with
     |some off=>exact Q.pure ⟨{a with off},rfl,rfl,b _ c⟩
     |none=>exact Q.unsupported OD
 |nilPtr=>
  dsimp only;refine(Iu e).bind ?_;rintro n _ d b rfl;refine Q.ite UZ (λ_=>Q.unsupported (u:= .unsafePointer _) OD) (λ_=>Q.ite UZ (λ_=>Q.bindUnsupported (u:= .unsafePointer _) OD) λ_=>Q.unsupported (u:= .unsafePointer _) OD)
 |_=>exact Q.stuck
def jg(a:NP)(l:Bool)(b:L a.block):Q P fs Λ P.globals.size ρ L (VR ρ) (asNumber a l) (asNumber (Zl ρ a) l):=by
 unfold asNumber;exact λ_ _=> .new (.number b) (λ_ h=>by cases h) λr _=> .pure (.ptr (a:=⟨r,0,NB⟩) (.inr rfl))
def KX(t:J){x x' y y':I}(e:VRel ρ L x x')(c:VRel ρ L y y'):Q P fs Λ P.globals.size ρ L (VR ρ) (movedNumber t x y) (movedNumber t x' y'):=by
 unfold movedNumber;refine(Za t).bind ?_;rintro d _ _ g ⟨rfl,_⟩;refine Q.ite UZ (λ_=>Q.bindUnsupported (u:= .unsafePointer _) OD) (λ_=> ?_);have e:=e.up g;have c:=c.up g;have f:=DS (P:=P) (fs:=fs) (Λ:=Λ) t e c;cases e with
 | @ptr n o=>
   refine(Qb n o).bind ?_;rintro⟨a,l⟩ _ _ i ⟨rfl,j⟩;refine(DS t (VRel.ptr j) (c.up i)).bind ?_;rintro _ _ _ _ ⟨b,rfl,rfl,m⟩;exact jg _ l m
 |nilPtr=>exact f.imp λL a b h=>h.vrel
 |_=>exact Q.stuck
def lY(t:J){x x' y y':I}(d:VRel ρ L x x')(f:VRel ρ L y y'):Q P fs Λ P.globals.size ρ L (VR ρ) (movedPointer t x y) (movedPointer t x' y'):=by
 unfold movedPointer;have c:∀{L':Nat->Prop},(∀b,L b->L' b)->Q P fs Λ P.globals.size ρ L' (VR ρ) (Builtin.unsafeAdd_ #[] t #[x,y]) (Builtin.unsafeAdd_ #[] t #[x',y']):=λg=>(DS (P:=P) (fs:=fs) (Λ:=Λ) t (d.up g) (f.up g)).imp λL a b h=>h.vrel
 cases d with
 | @ptr n i=>
   refine(AA n.block i).bind ?_;intro o _ _ e h;cases h with|none=>exact c e|some _=>exact Q.bindUnsupported (u:= .addressObserved) OD
 |nilPtr=>exact c λ_ h=>h
 |_=>exact Q.stuck
end
def EF(P:NO)(fs:Array Func):∀n t u,(Z6 P fs).alikeButTags n t u=P.alikeButTags n t u:=by
 intro n
 induction n with|zero=>intro t u;rfl|succ n a=>intro t u;simp only[Program.alikeButTags,a];rfl
def MJ(P:NO)(fs:Array Func)(t:J):(Z6 P fs).stoodInHeld t=P.stoodInHeld t:=by
 unfold Program.stoodInHeld Program.stoodInAs;simp only[EF];rfl
def EJ(P:NO)(fs:Array Func):∀n t,(Z6 P fs).eqGuardType n t=P.eqGuardType n t:=by
 intro n
 induction n with
 |zero=>intro t;rfl
 |succ n a=>
  intro t;have e:(Z6 P fs).eqGuardType n=P.eqGuardType n:=funext a;simp only[Program.eqGuardType,e];rfl
def W1(P:NO):Nat->J->Bool
 |0,_=>ND
 |n+1,t=>match P.underlying t with
  |some .bool|some (.int _)|some .string|some (.slice _)|some (.map _ _)|some (.func _ _ _)=>Z
  |some (.struct fs)=>fs.toList.all λf=>W1 P n f.type
  |some (.array _ e)=>W1 P n e
  |_=>ND
section
variable {fs:Array Func}{ρ:Nat->Nat}
variable {α β γ δ σ σ':Type}{A:(Nat->Prop)->α->β->Prop}{B:(Nat->Prop)->γ->δ->Prop}
def p8(op:BinOp)(k a:IntKind)(x y:Int):Q P fs Λ P.globals.size ρ L (VR ρ) (Op.shift op k x a y) (Op.shift op k x a y):=by
 unfold Op.shift;refine Q.ite UZ (λ_=>V4 _ rfl) (λ_=> ?_);cases op<;>first|exact Q.pure (.int _ _)|exact Q.stuck
def bq(op:BinOp)(k:IntKind)(x y:Int):Q P fs Λ P.globals.size ρ L (VR ρ) (Op.intArith op k x y) (Op.intArith op k x y):=by
 unfold Op.intArith;cases op<;>first|exact Q.pure (.int _ _)|exact Q.stuck
def mM(op:BinOp)(k:IntKind)(x y:Int):Q P fs Λ P.globals.size ρ L (VR ρ) (Op.intDiv op k x y) (Op.intDiv op k x y):=by
 unfold Op.intDiv;refine Q.ite UZ (λ_=>V4 _ rfl) (λ_=> ?_);cases op<;>first|exact Q.pure (.int _ _)|exact Q.stuck
def DX(op:BinOp)(k:IntKind)(x y:Int):Q P fs Λ P.globals.size ρ L (VR ρ) (Op.intBits op k x y) (Op.intBits op k x y):=by
 unfold Op.intBits;cases op<;>first|exact Q.pure (.int _ _)|exact Q.stuck
def kE(op:BinOp)(x y:Int):Q P fs Λ P.globals.size ρ L (VR ρ) (Op.intCmp op x y) (Op.intCmp op x y):=by
 unfold Op.intCmp;cases op<;>first|exact Q.pure (.bool _)|exact Q.stuck
def HT(op:BinOp)(x y:ByteArray):Q P fs Λ P.globals.size ρ L (VR ρ) (Op.stringOp op x y) (Op.stringOp op x y):=by
 unfold Op.stringOp;cases op<;>first|exact Q.pure (.bool _)|exact Q.stuck|exact Q.ite UZ (λ_=>Q.unsupported OD) (λ_=>Q.pure (.string _))
def lO(op:UnOp){v a:I}(c:VRel ρ L v a):Q P fs Λ P.globals.size ρ L (VR ρ) (Op.unary op v) (Op.unary op a):=by
 cases c with
 |int k n=>
  cases op with|neg=>simp only[Op.unary];exact bq _ _ _ _|xor=>simp only[Op.unary];exact DX _ _ _ _|_=>exact Q.stuck
 |bool b=>
  cases op with|not=>exact Q.pure (.bool _)|_=>exact Q.stuck
 |ptr _=>
  cases op with|neg|xor=>exact Q.unsupported (u:= .addressObserved) OD|_=>exact Q.stuck
 |_=>cases op<;>exact Q.stuck
inductive StR(R:(Nat->Prop)->σ->σ'->Prop)(L:Nat->Prop):ForInStep σ->ForInStep σ'->Prop
 |done {s s'}:R L s s'->StR R L (.done s) (.done s')
 |yield {s s'}:R L s s'->StR R L (.yield s) (.yield s')
def LK(R:(Nat->Prop)->σ->σ'->Prop)(f:γ->σ->Sem (ForInStep σ))(g:γ->σ'->Sem (ForInStep σ')):∀(l:List γ)(L:Nat->Prop),
 (∀x∈l,∀(L':Nat->Prop) s a,(∀b,L b->L' b)->R L' s a->Q P fs Λ P.globals.size ρ L' (StR R) (f x s) (g x a))->∀s a,R L s a->Q P fs Λ P.globals.size ρ L R (forIn l s f) (forIn l a g):=by
 intro l
 induction l with
 |nil=>intro L _ s a h;simp only[List.forIn_nil];exact Q.pure h
 |cons x l i=>
  intro L c s a h;simp only[List.forIn_cons];refine(c x YY L s a (λ_ h=>h) h).bind ?_;intro r _ m d j;cases j with|done h=>exact Q.pure h|yield h=>exact i m (λy e L' s a p=>c y (YW _ e) L' s a (λb o=>p b (d b o))) _ _ h
def q_equalIn:∀(n:Nat)(L:Nat->Prop)(t:J){x x' y y':I},W1 P n t=Z->VRel ρ L x x'->VRel ρ L y y'->Q P fs Λ P.globals.size ρ L EQ (Op.equalIn n t x y) (Op.equalIn n t x' y'):=by
 intro n
 induction n with
 |zero=>intro L t x x' y y' h;simp[W1]at h
 |succ n ih=>
  intro L t x x' y y' W g c;unfold Op.equalIn;refine(Za t).bind ?_;rintro d _ _ g1 ⟨rfl,hd⟩;simp only[W1,hd]at W;replace g:=g.up g1;replace c:=c.up g1;cases d with
  |bool=>
   cases g with
   |bool _=>
    cases c with|bool _=>exact Q.pure rfl|_=>exact Q.stuck
   |_=>exact Q.stuck
  |string=>
   cases g with
   |string _=>
    cases c with|string _=>exact Q.pure rfl|_=>exact Q.stuck
   |_=>exact Q.stuck
  |int k0=>
   cases g with
   |int k a=>
    cases c with
    |int k' b=>exact Q.ite UZ (λ_=>Q.pure rfl) (λ_=>Q.stuck)
    |ptr h=>
     cases a with
     |ofNat m=>cases m with|zero=>exact Q.pure rfl|succ m=>exact Q.unsupported (u:= .addressObserved) OD
     |negSucc m=>exact Q.unsupported (u:= .addressObserved) OD
    |nilPtr=>
     cases a with
     |ofNat m=>cases m with|zero=>exact Q.unsupported (u:= .addressObserved) OD|succ m=>exact Q.unsupported (u:= .addressObserved) OD
     |negSucc m=>exact Q.unsupported (u:= .addressObserved) OD
    |_=>
     cases a with
     |ofNat m=>cases m<;>exact Q.stuck
     |negSucc m=>exact Q.stuck
   | @ptr a ha=>
     cases c with
     |int k' b=>
      cases b with
      |ofNat m=>cases m with|zero=>exact Q.pure rfl|succ m=>exact Q.unsupported (u:= .addressObserved) OD
      |negSucc m=>exact Q.unsupported (u:= .addressObserved) OD
     | @ptr b F=>
       dsimp only;refine(Qb a ha).bind ?_;rintro⟨a1,_⟩ _ V j ⟨rfl,Y⟩;refine(Qb b (j _ F)).bind ?_;rintro⟨b1,_⟩ _ X C ⟨rfl,Be⟩;refine Q.good λM=>Q.program ?_
       refine Q.ite ?_ (λ_=> ?_) (λ_=> ?_)
       .have h1:=M.block (C _ Y) Be;have h2:=M.2 _ (C _ Y);constructor
        .exact λh=>have h:=QJ.1 h;QJ.2 ⟨XU.2 (h1.2 (XU.1 h.1)),VB (h2.2 (SD h.2))⟩
        .exact λh=>have h:=QJ.1 h;QJ.2 ⟨XU.2 (h1.1 (XU.1 h.1)),VB (h2.1 (SD h.2))⟩
       .refine(KN a1 (C _ Y)).bind ?_;rintro x _ K w rfl;refine(KN b1 (w _ Be)).bind ?_;rintro y _ L5 g5 rfl;exact Q.pure rfl
       .refine(Qd t).bind ?_;rintro i _ K w ⟨rfl,_⟩;have O:=λM=>Good.addr (ρ:=ρ) (G:=P.globals.size) (L:=K) M (w _ (C _ Y)) (w _ Be)
        refine Q.good λM=> ?_
        have a2:Q P fs Λ P.globals.size ρ K EQ (if(a1==b1)=Z then Pure.pure Z else Go.unsupported (α:=Bool) .addressObserved) (if(Zl ρ a1==Zl ρ b1)=Z then Pure.pure Z else Go.unsupported .addressObserved):=
         Q.ite ⟨λh=>XU.2 ((O M).2 (XU.1 h)),λh=>XU.2 ((O M).1 (XU.1 h))⟩ (λ_=>Q.pure rfl) (λ_=>Q.unsupported OD)
        split
        .exact a2
        .exact Q.unsupported OD
     |nilPtr=>exact Q.unsupported (u:= .addressObserved) OD
     |_=>exact Q.unsupported (u:= .addressObserved) OD
   |nilPtr=>
    cases c with
    |int k' b=>cases b with
     |ofNat m=>cases m<;>exact Q.unsupported (u:= .addressObserved) OD
     |negSucc m=>exact Q.unsupported (u:= .addressObserved) OD
    |_=>exact Q.unsupported (u:= .addressObserved) OD
   |_=>
    cases c with|ptr _|nilPtr=>exact Q.unsupported (u:= .addressObserved) OD|_=>exact Q.stuck
  |slice _=>
   cases g with
   |nilSlice _ _=>
    cases c with|nilSlice _ _|slice _ _ _=>exact Q.pure rfl|_=>exact Q.stuck
   |slice _ _ _=>
    cases c with|nilSlice _ _=>exact Q.pure rfl|_=>exact Q.stuck
   |_=>exact Q.stuck
  |map _ _=>
   cases g with
   |nilMap=>
    cases c with|nilMap|map _=>exact Q.pure rfl|_=>exact Q.stuck
   |map _=>
    cases c with|nilMap=>exact Q.pure rfl|_=>exact Q.stuck
   |_=>exact Q.stuck
  |func _ _ _=>
   cases g with
   |nilFunc=>
    cases c with|nilFunc|meth _|func _ _ _ _ _|yield _ _ _ _ _=>exact Q.pure rfl|_=>exact Q.stuck
   |meth _|func _ _ _ _ _|yield _ _ _ _ _=>
    cases c with|nilFunc=>exact Q.pure rfl|_=>exact Q.stuck
   |_=>exact Q.stuck
  |struct _=>
   cases g with
   | @agg xs a0 C8 Av=>
     cases c with
     | @agg ys a3 E H=>
       dsimp only;refine Q.program ?_;refine Q.ite (by rw[MJ]) (λ_=>Q.bindUnsupported (u:= .noEntry _) OD) (λ_=> ?_);rw[<-RM,<-RM];refine Q.bind (A:=EQ) (LK EQ _ _ _ _ ?_ _ _ rfl) ?_
       .rintro f hf V s _ j rfl;refine Q.ite UZ (λ_=> ?_) (λ_=>Q.pure (.yield rfl));refine(Tn f.type (AR.up ⟨C8,Av⟩ j) f.offset).bind ?_;intro p p' X C hp;refine(Tn f.type (AR.up (L':=X) ⟨E,H⟩ λb F=>C b (j b F)) f.offset).bind ?_;intro r r' K w hr;refine(ih K f.type (YL.1 W f hf) (hp.up w) hr).bind ?_;rintro b _ L5 g5 rfl;cases b
        .exact Q.pure (.done rfl)
        .exact Q.pure (.yield rfl)
       .rintro r _ V j rfl;obtain⟨o,u⟩:=r;cases o<;>exact Q.pure rfl
     |_=>exact Q.stuck
   |_=>exact Q.stuck
  |array _ e=>
   cases g with
   | @agg xs a0 C8 Av=>
     cases c with
     | @agg ys a3 E H=>
       dsimp only;refine(WH e).bind ?_;rintro _ _ _ T rfl;rw[VY,VY];refine Q.bind (A:=EQ) (LK EQ _ _ _ _ ?_ _ _ rfl) ?_
       .rintro i hi V s _ j rfl;refine(Tn e (AR.up (L':=V) ⟨C8,Av⟩ λb F=>j b (T b F)) _).bind ?_;intro p p' X C hp;refine(Tn e (AR.up (L':=X) ⟨E,H⟩ λb F=>C b (j b (T b F))) _).bind ?_;intro r r' K w hr;refine(ih K e W (hp.up w) hr).bind ?_;rintro b _ L5 g5 rfl;cases b
        .exact Q.pure (.done rfl)
        .exact Q.pure (.yield rfl)
       .rintro r _ V j rfl;obtain⟨o,u⟩:=r;cases o<;>exact Q.pure rfl
     |_=>exact Q.stuck
   |_=>exact Q.stuck
  |_=>simp at W
def bQ(t:J){x x' y y':I}(b:W1 P Op.maxDepth t=Z)(c:VRel ρ L x x')(a:VRel ρ L y y'):Q P fs Λ P.globals.size ρ L EQ (Op.equal t x y) (Op.equal t x' y'):=q_equalIn _ _ _ b c a
def q_eqGuardIn:∀(n:Nat)(L:Nat->Prop)(t:J){x x' y y':I},VRel ρ L x x'->VRel ρ L y y'->Q P fs Λ P.globals.size ρ L EQ (Op.eqGuardIn n t x y) (Op.eqGuardIn n t x' y'):=by
 intro n
 induction n with
 |zero=>exact λL t x x' y y' _ _=>Q.unsupported OD
 |succ n ih=>
  intro L t x x' y y' C m;unfold Op.eqGuardIn;refine(Za t).bind ?_;rintro d _ _ Y ⟨rfl,_⟩;replace C:=C.up Y;replace m:=m.up Y;cases d with
  |interface _=>
   cases C with
   |hole w c=>cases x'<;>first|exact Q.pure rfl|(cases c;done)
   |nilIface=>
    cases m with
    |hole w c=>cases y'<;>first|exact Q.pure rfl|(cases c;done)
    |nilIface=>exact Q.pure rfl
    |_=>exact Q.pure rfl
   |_=>exact Q.pure rfl
  |struct _=>
   cases C with
   |hole w c=>cases x'<;>first|exact Q.pure rfl|(cases c;done)
   | @agg xs E M F=>
     cases m with
     |hole w c=>cases y'<;>first|exact Q.pure rfl|(cases c;done)
     | @agg ys O e g=>
       dsimp only;rw[<-RM,<-RM];refine Q.bind (A:=EQ) (LK EQ _ _ _ _ ?_ _ _ rfl) ?_
       .rintro f hf L2 s _ g2 rfl;refine Q.ite UZ (λ_=> ?_) (λ_=>Q.pure (.yield rfl));refine(Tn f.type (AR.up ⟨M,F⟩ g2) f.offset).bind ?_;intro p p' H X V;refine(Tn f.type (AR.up (L':=H) ⟨e,g⟩ λb h=>X b (g2 b h)) f.offset).bind ?_;intro r r' K T W;refine(ih K f.type (V.up T) W).bind ?_;rintro b _ L5 g5 rfl;cases b
        .exact Q.pure (.yield rfl)
        .exact Q.pure (.done rfl)
       .rintro r _ L2 g2 rfl;obtain⟨o,u⟩:=r;cases o<;>exact Q.pure rfl
     |_=>exact Q.pure rfl
   |_=>exact Q.pure rfl
  |array _ a=>
   cases C with
   |hole w c=>cases x'<;>first|exact Q.pure rfl|(cases c;done)
   | @agg xs E M F=>
     cases m with
     |hole w c=>cases y'<;>first|exact Q.pure rfl|(cases c;done)
     | @agg ys O e g=>
       dsimp only;refine(WH a).bind ?_;rintro _ _ _ j rfl;rw[VY,VY];refine Q.bind (A:=EQ) (LK EQ _ _ _ _ ?_ _ _ rfl) ?_
       .rintro i hi L2 s _ g2 rfl;refine(Tn a (AR.up (L':=L2) ⟨M,F⟩ λb h=>g2 b (j b h)) _).bind ?_;intro p p' H X V;refine(Tn a (AR.up (L':=H) ⟨e,g⟩ λb h=>X b (g2 b (j b h))) _).bind ?_;intro r r' K T W;refine(ih K a (V.up T) W).bind ?_;rintro b _ L5 g5 rfl;cases b
        .exact Q.pure (.yield rfl)
        .exact Q.pure (.done rfl)
       .rintro r _ L2 g2 rfl;obtain⟨o,u⟩:=r;cases o<;>exact Q.pure rfl
     |_=>exact Q.pure rfl
   |_=>exact Q.pure rfl
  |_=>exact Q.pure rfl
def iW(op:BinOp)(t:J)(x y:Operand){a f b e:I}(j:VRel ρ L a f)(h:VRel ρ L b e):Q P fs Λ P.globals.size ρ L (TT (α:=Unit) (β:=Unit)) (eqGuard op t x y a b) (eqGuard op t x y f e):=by
 unfold eqGuard;refine Q.ite UZ (λ_=>Q.pure trivial) (λ_=> ?_);cases j with
 |hole g d=>cases f<;>first|exact Q.pure trivial|(cases d;done)
 |nilIface=>
  cases h with
  |hole g d=>cases e<;>first|exact Q.pure trivial|(cases d;done)
  |nilIface=>
   dsimp only;refine Q.ite UZ (λ_=>Q.pure trivial) (λ_=> ?_);refine(q_eqGuardIn _ L t .nilIface .nilIface).bind ?_;rintro c _ o i rfl;exact Q.ite UZ (λ_=>Q.unsupported OD) (λ_=>Q.pure trivial)
  |_=>exact Q.pure trivial
 |agg p m=>
  cases h with
  |hole g d=>cases e<;>first|exact Q.pure trivial|(cases d;done)
  |agg k1 k2=>
   dsimp only;refine Q.program (Q.program ?_);refine Q.ite (by rw[EJ];rfl) (λ_=>Q.pure trivial) (λ_=> ?_);refine(q_eqGuardIn _ L t (.agg p m) (.agg k1 k2)).bind ?_;rintro c _ o i rfl;exact Q.ite UZ (λ_=>Q.unsupported OD) (λ_=>Q.pure trivial)
  |_=>exact Q.pure trivial
 |_=>exact Q.pure trivial
def JH(P:NO)(op:BinOp)(t:J):Bool:=
 match op with
 | .eql| .neq=>W1 P Op.maxDepth t
 |_=>Z
def Zi(t:J){x x' y y':I}(c:W1 P Op.maxDepth t=Z)(d:VRel ρ L x x')(a:VRel ρ L y y')(f:Bool->Bool):
 Q P fs Λ P.globals.size ρ L (VR ρ) (do Pure.pure (Value.bool (f (<-Op.equal t x y)))) (do Pure.pure (Value.bool (f (<-Op.equal t x' y')))):=by
 refine(bQ t c d a).bind ?_;rintro b _ _ _ rfl;exact Q.pure (.bool _)
def kz(op:BinOp)(t:J)(k c:IntKind)(a b:Int):Q P fs Λ P.globals.size ρ L (VR ρ) (binOp op t (.int k a) (.int c b)) (binOp op t (.int k a) (.int c b)):=by
 cases op<;>simp only[binOp]<;>first|exact p8 _ _ _ _ _|exact Q.ite UZ (λ_=>Q.stuck) (λ_=>by first|exact bq _ _ _ _|exact mM _ _ _ _|exact DX _ _ _ _|exact kE _ _ _)
def aV(k:IntKind)(m:Int){a:NP}(c:L a.block):Q P fs Λ P.globals.size ρ L (VR ρ) (do Op.addrMod k (<-behindNumber a).1 (m+1)) (do Op.addrMod k (<-behindNumber (Zl ρ a)).1 (m+1)):=by
 refine(Qb a c).bind ?_;rintro⟨b,_⟩ _ _ _ ⟨rfl,d⟩;exact BI k b _ d
def jM(k:IntKind)(m:Int){a:NP}(c:L a.block):Q P fs Λ P.globals.size ρ L (VR ρ) (do Op.addrMod k (<-behindNumber a).1 m) (do Op.addrMod k (<-behindNumber (Zl ρ a)).1 m):=by
 refine(Qb a c).bind ?_;rintro⟨b,_⟩ _ _ _ ⟨rfl,d⟩;exact BI k b _ d
def bi(t:J){x x' y y':I}(c:VRel ρ L x x')(b:VRel ρ L y y'):
 Q P fs Λ P.globals.size ρ L (VR ρ) (do if(<-underlying t) matches .unsafePointer then movedPointer t x y else movedNumber t x y) (do if(<-underlying t) matches .unsafePointer then movedPointer t x' y' else movedNumber t x' y'):=by
 refine(Za t).bind ?_;rintro d _ _ a ⟨rfl,_⟩;exact Q.ite UZ (λ_=>lY t (c.up a) (b.up a)) (λ_=>KX t (c.up a) (b.up a))
def fw{a b:NP}(d:L a.block)(e:L b.block):Q P fs Λ P.globals.size ρ L (VR ρ) (do Op.addrSub .u64 (<-behindNumber a).1 (<-behindNumber b).1) (do Op.addrSub .u64 (<-behindNumber (Zl ρ a)).1 (<-behindNumber (Zl ρ b)).1):=by
 refine(Qb a d).bind ?_;rintro⟨_,_⟩ _ _ c ⟨rfl,g⟩;refine(Qb b (c _ e)).bind ?_;rintro⟨_,_⟩ _ _ f ⟨rfl,c⟩;exact qh _ _ _ (f _ g) c
def J6(op:BinOp){a b:NP}(d:L a.block)(e:L b.block):Q P fs Λ P.globals.size ρ L (VR ρ) (do Op.addrCmp op (<-behindNumber a).1 (<-behindNumber b).1) (do Op.addrCmp op (<-behindNumber (Zl ρ a)).1 (<-behindNumber (Zl ρ b)).1):=by
 refine(Qb a d).bind ?_;rintro⟨_,_⟩ _ _ c ⟨rfl,g⟩;refine(Qb b (c _ e)).bind ?_;rintro⟨_,_⟩ _ _ f ⟨rfl,c⟩;exact nZ op _ _ (f _ g) c
def fJ{g:TypeDesc->Sem γ}{Y:Sem δ}(h:∀d,P.underlying t=U d->Q P fs Λ P.globals.size ρ L B (g d) Y):Q P fs Λ P.globals.size ρ L B (underlying t>>=g) Y:=by
 intro a N;refine SEqv.programL ?_;show SEqv _ _ _ _ _ _ _ _ (((match (Z6 P fs).underlying t with|some d=>Pure.pure d|none=>stuck "no such type" :Sem TypeDesc))>>=g) Y;rw[Xb];cases hd:P.underlying t with
 |none=>exact Q.bindStuck (P:=P) (fs:=fs) a N
 |some d=>exact h d hd a N
def q_equalIn_hole:∀(n:Nat)(t:J),W1 P n t=Z->∀{x y:I},x=NQ\/y=NQ->∀{f:Bool->Sem γ}{Y:Sem δ},Q P fs Λ P.globals.size ρ L B (Op.equalIn n t x y>>=f) Y:=by
 intro n t b x y h f Y;cases n with
 |zero=>simp[W1]at b
 |succ n=>
  unfold Op.equalIn;rw[bind_assoc];refine fJ λd e=> ?_
  simp only[W1,e]at b;rcases h with rfl|rfl
  .cases d<;>first|cases b;done|exact Q.bindStuck|exact Q.bindUnsupported (u:= .addressObserved) OD|(cases y<;>first|exact Q.bindStuck|exact Q.bindUnsupported (u:= .addressObserved) OD|(rename_i a;cases a<;>first|exact Q.bindStuck|exact Q.bindUnsupported (u:= .addressObserved) OD)|(rename_i a l c;cases a<;>first|exact Q.bindStuck|exact Q.bindUnsupported (u:= .addressObserved) OD))
  .cases d<;>first|cases b;done|exact Q.bindStuck|exact Q.bindUnsupported (u:= .addressObserved) OD|(cases x<;>first|exact Q.bindStuck|exact Q.bindUnsupported (u:= .addressObserved) OD|(rename_i a;cases a<;>first|exact Q.bindStuck|exact Q.bindUnsupported (u:= .addressObserved) OD)|(rename_i a l c;cases a<;>first|exact Q.bindStuck|exact Q.bindUnsupported (u:= .addressObserved) OD))
def bz(t:J)(x:I):binOp .eql t x NQ=(do Pure.pure (.bool (id (<-Op.equal t x NQ))))/\binOp .neq t x NQ=(do Pure.pure (.bool (not (<-Op.equal t x NQ)))):=by
 constructor<;>cases x<;>rfl
def aE(t:J)(y:I):binOp .eql t NQ y=(do Pure.pure (.bool (id (<-Op.equal t NQ y))))/\binOp .neq t NQ y=(do Pure.pure (.bool (not (<-Op.equal t NQ y)))):=by
 constructor<;>cases y<;>rfl
def iB(op:BinOp)(t:J){x' y y':I}(d:JH P op t=Z)(g:Ban.holes=Z)(e:wild x'=Z)(f:VRel ρ L y y'):Q P fs Λ P.globals.size ρ L (VR ρ) (binOp op t NQ y) (binOp op t x' y'):=by
 have i:VRel ρ L NQ x':= .hole g e;have h:=f;by_cases c:op= .eql
 .subst c;rw[(aE t y).1];exact q_equalIn_hole _ t d (.inl rfl)
 by_cases b:op= .neq
 .subst b;rw[(aE t y).2];exact q_equalIn_hole _ t d (.inl rfl)
 cases op<;>first|exact absurd rfl c|exact absurd rfl b|(cases y<;>first|exact Q.stuck|exact Q.unsupported (u:= .addressObserved) OD|(rename_i a;cases a<;>first|exact Q.stuck|exact Q.unsupported (u:= .addressObserved) OD))
def KC(op:BinOp)(t:J){x x' y':I}(d:JH P op t=Z)(h:VRel ρ L x x')(f:Ban.holes=Z)(e:wild y'=Z):Q P fs Λ P.globals.size ρ L (VR ρ) (binOp op t x NQ) (binOp op t x' y'):=by
 have g:VRel ρ L NQ y':= .hole f e;by_cases c:op= .eql
 .subst c;rw[(bz t x).1];exact q_equalIn_hole _ t d (.inr rfl)
 by_cases b:op= .neq
 .subst b;rw[(bz t x).2];exact q_equalIn_hole _ t d (.inr rfl)
 cases op<;>first|exact absurd rfl c|exact absurd rfl b|(cases x<;>first|exact Q.stuck|exact Q.unsupported (u:= .addressObserved) OD|(rename_i a;cases a<;>first|exact Q.stuck|exact Q.unsupported (u:= .addressObserved) OD))
def iJ(op:BinOp)(t:J){x x' y y':I}(d:JH P op t=Z)(o:VRel ρ L x x')(j:VRel ρ L y y'):Q P fs Λ P.globals.size ρ L (VR ρ) (binOp op t x y) (binOp op t x' y'):=by
 have c:=o;have e:=j;cases o with
 |hole g f=>exact iB op t d g f e
 |int k a=>
  cases j with
  |hole g f=>exact KC op t d c g f
  |int p b=>exact kz op t k p a b
  |ptr h=>
   cases op with|eql=>exact Zi t d c e id|neq=>exact Zi t d c e not|add=>exact KX t e c|and=>exact aV k a h|_=>exact Q.unsupported (u:= .addressObserved) OD
  |nilPtr=>
   cases op with|eql=>exact Zi t d c e id|neq=>exact Zi t d c e not|add=>exact KX t e c|_=>exact Q.unsupported (u:= .addressObserved) OD
  |_=>
   cases op with|eql=>exact Zi t d c e id|neq=>exact Zi t d c e not|_=>exact Q.stuck
 |string a=>
  cases j with
  |hole g f=>exact KC op t d c g f
  |string b=>cases op<;>(simp only[binOp];exact HT _ a b)
  |ptr h=>
   cases op with|eql=>exact Zi t d c e id|neq=>exact Zi t d c e not|_=>exact Q.unsupported (u:= .addressObserved) OD
  |nilPtr=>
   cases op with|eql=>exact Zi t d c e id|neq=>exact Zi t d c e not|_=>exact Q.unsupported (u:= .addressObserved) OD
  |_=>
   cases op with|eql=>exact Zi t d c e id|neq=>exact Zi t d c e not|_=>exact Q.stuck
 |ptr i=>
  cases j with
  |hole g f=>exact KC op t d c g f
  |int k b=>
   cases op with|eql=>exact Zi t d c e id|neq=>exact Zi t d c e not|add=>exact bi t c e|sub=>exact KX t c (.int k (-b))|rem=>exact jM k b i|and=>exact aV k b i|_=>exact Q.unsupported (u:= .addressObserved) OD
  |ptr m=>
   cases op with|eql=>exact Zi t d c e id|neq=>exact Zi t d c e not|sub=>exact fw i m|lss=>exact J6 _ i m|leq=>exact J6 _ i m|gtr=>exact J6 _ i m|geq=>exact J6 _ i m|_=>exact Q.unsupported (u:= .addressObserved) OD
  |_=>
   cases op with|eql=>exact Zi t d c e id|neq=>exact Zi t d c e not|_=>exact Q.unsupported (u:= .addressObserved) OD
 |nilPtr=>
  cases j with
  |hole g f=>exact KC op t d c g f
  |int k b=>
   cases op with|eql=>exact Zi t d c e id|neq=>exact Zi t d c e not|add=>exact bi t c e|sub=>exact KX t c (.int k (-b))|_=>exact Q.unsupported (u:= .addressObserved) OD
  |_=>
   cases op with|eql=>exact Zi t d c e id|neq=>exact Zi t d c e not|_=>exact Q.unsupported (u:= .addressObserved) OD
 |_=>
  cases j with
  |hole g f=>exact KC op t d c g f
  |ptr m=>
   cases op with|eql=>exact Zi t d c e id|neq=>exact Zi t d c e not|_=>exact Q.unsupported (u:= .addressObserved) OD
  |nilPtr=>
   cases op with|eql=>exact Zi t d c e id|neq=>exact Zi t d c e not|_=>exact Q.unsupported (u:= .addressObserved) OD
  |_=>
   cases op with|eql=>exact Zi t d c e id|neq=>exact Zi t d c e not|_=>exact Q.stuck
end
def GD(P:NO)(b a:J):Bool:=
 match P.underlying b,P.underlying a with
 |some (.int _),U (.int _)=>Z
 |some .string,U (.slice e)=>(match P.underlying e with|some (.int .u8)=>Z|_=>ND)
 |_,_=>ND
def EZ(P:NO)(a:Array J):Bool:=
 match a[0]?,a[1]? with
 |some s,U x=>(match P.underlying s with|some (.slice e)=>Ui P e|_=>ND)&&(match P.underlying x with|some (.int _)=>ND|_=>Z)
 |_,_=>ND
def FA(P:NO)(a:Array J):Bool:=
 match a[0]? with
 |some t=>(match P.underlying t with|some (.chan _ _)=>ND|_=>Z)
 |_=>ND
section
variable {fs:Array Func}{ρ:Nat->Nat}
variable {α β γ δ σ σ':Type}{A:(Nat->Prop)->α->β->Prop}{B:(Nat->Prop)->γ->δ->Prop}
def cX(s:ByteArray):AR ρ L (s.data.map λb=>Value.int .u8 b.toNat) (s.data.map λb=>Value.int .u8 b.toNat):=
 AR.mk rfl λi v _ a c=>by
  rw[a]at c;cases c;simp only[Array.getElem?_map,VA]at a;obtain⟨x,_,rfl⟩:=a;exact .int _ _
def gh(e:J)(s:ByteArray):Q P fs Λ P.globals.size ρ L (VR ρ) (Conv.stringToBytes e s) (Conv.stringToBytes e s):=by
 unfold Conv.stringToBytes;refine Q.choose.bind ?_;rintro _ _ _ _ rfl;intro _ N;refine .new (.cells (AR.append (cX s) (AR.replicate _ (.int _ _))) λ_=>rfl) (λ_ h=>by cases h) λr _=> ?_
 refine .shape (.inr rfl) λo=> ?_
 cases o with|none=>exact .pure (.slice (a:=⟨r,0,NB⟩) _ _ (.inr rfl))|some x=>exact .freeze (a:=⟨r,x.2,NB⟩) (.inr rfl) (.pure (.slice (a:=⟨r,0,NB⟩) _ _ (.inr rfl)))
def ja(b a:J){v f:I}(c:GD P b a=Z)(g:VRel ρ L v f):Q P fs Λ P.globals.size ρ L (VR ρ) (convert b a v) (convert b a f):=by
 unfold convert;refine(Za b).bind ?_;rintro j _ _ _ ⟨rfl,m⟩;refine(Za a).bind ?_;rintro d _ _ _ ⟨rfl,i⟩;simp only[GD,m,i]at c;cases j with
 |int k1=>
  cases d with
  |int k2=>
   cases g with|int k n=>exact Q.pure (.int _ _)|ptr h=>exact Q.unsupported (u:= .addressObserved) OD|_=>exact Q.unsupported (u:= .noEntry _) OD
  |_=>simp at c
 |string=>
  cases d with
  |slice e=>
   cases g with
   |string s=>
    dsimp only;refine(Za e).bind ?_;rintro _ _ _ _ ⟨rfl,o⟩;simp only[o]at c;split at c
    .rename_i heq;cases heq;exact gh e s
    .cases c
   |_=>exact Q.unsupported (u:= .noEntry _) OD
  |_=>simp at c
 |_=>simp at c
def EsRel.length:∀{l a:List MapEntry},EsRel ρ L l a->l.length=a.length:=by
 intro l a h
 induction h with|nil=>rfl|cons _ _ b=>simp[b]
def q_len(i:Array J)(t:J){a b:Array I}(j:FA P i=Z)(K:AR ρ L a b):Q P fs Λ P.globals.size ρ L (VR ρ) (Builtin.len_ i t a) (Builtin.len_ i t b):=by
 unfold Builtin.len_;unfold FA at j;cases h0:i[0]? with
 |none=>exact Q.stuck
 |some C=>
  cases h1:a[0]? with
  |none=>exact Q.stuck
  |some x=>
   obtain⟨x',m,g⟩:=K.get h1;rw[m];dsimp only;refine(Za C).bind ?_;rintro d _ _ F ⟨rfl,u⟩;simp only[h0,u]at j;have g:=g.up F;cases d with
   |chan _ _=>simp at j
   |string=>
    cases g with|string s=>exact Q.pure (.int _ _)|_=>exact Q.stuck
   |array n e=>exact Q.pure (.int _ _)
   |pointer e=>
    refine(Za e).bind ?_;rintro w _ _ _ ⟨rfl,_⟩;cases w with|array n e=>exact Q.pure (.int _ _)|_=>exact Q.stuck
   |slice e=>
    cases g with|nilSlice l c|slice l c _=>exact Q.pure (.int _ _)|_=>exact Q.stuck
   |map k e=>
    cases g with
    |nilMap=>exact Q.pure (.int _ _)
    |map H=>
     intro _ N;refine .getObj H λL' o _ _ _ E _=> ?_
     cases E with
     | @map p f c h=>
       have e:p.size=f.size:=h.length;show SEqv _ _ _ _ _ _ _ _ (Sem.pure (goInt p.size)) (Sem.pure (goInt f.size));rw[<-e];exact .pure (.int _ _)
     |_=>exact .bad trivial
    |_=>exact Q.stuck
   |_=>exact Q.stuck
def kt(e:VRel ρ L x x')(c:VRel ρ L y y'):Q P fs Λ P.globals.size ρ L (VR ρ) (Builtin.max2 x y) (Builtin.max2 x' y'):=by
 cases e with
 |int k a=>
  cases c with|int _ b=>exact Q.pure (.int _ _)|ptr _=>exact Q.unsupported (u:= .addressObserved) OD|_=>exact Q.stuck
 |string s=>
  cases c with
  |string _=>
   unfold Builtin.max2;refine(HT _ _ _).bind ?_;intro v _ _ _ d;refine(DF d).bind ?_;rintro b _ _ _ rfl;exact Q.pure (.string _)
  |ptr _=>exact Q.unsupported (u:= .addressObserved) OD
  |_=>exact Q.stuck
 |ptr _=>exact Q.unsupported (u:= .addressObserved) OD
 |_=>
  cases c with|ptr _=>exact Q.unsupported (u:= .addressObserved) OD|_=>exact Q.stuck
def gv(e:VRel ρ L x x')(c:VRel ρ L y y'):Q P fs Λ P.globals.size ρ L (VR ρ) (Builtin.min2 x y) (Builtin.min2 x' y'):=by
 cases e with
 |int k a=>
  cases c with|int _ b=>exact Q.pure (.int _ _)|ptr _=>exact Q.unsupported (u:= .addressObserved) OD|_=>exact Q.stuck
 |string s=>
  cases c with
  |string _=>
   unfold Builtin.min2;refine(HT _ _ _).bind ?_;intro v _ _ _ d;refine(DF d).bind ?_;rintro b _ _ _ rfl;exact Q.pure (.string _)
  |ptr _=>exact Q.unsupported (u:= .addressObserved) OD
  |_=>exact Q.stuck
 |ptr _=>exact Q.unsupported (u:= .addressObserved) OD
 |_=>
  cases c with|ptr _=>exact Q.unsupported (u:= .addressObserved) OD|_=>exact Q.stuck
def aY(f:I->I->Sem I)(c:∀(L:Nat->Prop){x x' y y':I},VRel ρ L x x'->VRel ρ L y y'->Q P fs Λ P.globals.size ρ L (VR ρ) (f x y) (f x' y')):
 ∀{l a:List I}(L:Nat->Prop){x x':I},VRel ρ L x x'->VsRel ρ L l a->Q P fs Λ P.globals.size ρ L (VR ρ) (l.foldlM f x) (a.foldlM f x'):=by
 intro l
 induction l with
 |nil=>intro a L x x' b h;cases h;exact Q.pure b
 |cons y l g=>
  intro a L x x' b h;cases h with
  |cons m e=>
   simp only[List.foldlM_cons];refine(c L b m).bind ?_;intro v _ j d i;exact g j i (e.up d)
def q_max(d:Array J)(t:J){b a:Array I}(f:AR ρ L b a):Q P fs Λ P.globals.size ρ L (VR ρ) (Builtin.max_ d t b) (Builtin.max_ d t a):=by
 unfold Builtin.max_;have h:=f.list;cases h:b.toList with
 |nil=>exact Q.stuck
 |cons x l=>
  rename_i c;rw[h]at c;cases h':a.toList with
  |nil=>rw[h']at c;cases c
  |cons x' i=>
   rw[h']at c;cases c with|cons g e=>exact aY _ (λL=>kt) L g e
def q_min(d:Array J)(t:J){b a:Array I}(f:AR ρ L b a):Q P fs Λ P.globals.size ρ L (VR ρ) (Builtin.min_ d t b) (Builtin.min_ d t a):=by
 unfold Builtin.min_;have h:=f.list;cases h:b.toList with
 |nil=>exact Q.stuck
 |cons x l=>
  rename_i c;rw[h]at c;cases h':a.toList with
  |nil=>rw[h']at c;cases c
  |cons x' i=>
   rw[h']at c;cases c with|cons g e=>exact aY _ (λL=>gv) L g e
def rf(h:VRel ρ L x x'):Q P fs Λ P.globals.size ρ L EQ (Builtin.lenOf x) (Builtin.lenOf x'):=by
 cases h with|nilSlice _ _|slice _ _ _|string _=>exact Q.pure rfl|_=>exact Q.stuck
def Fa(a n:Nat){x x':I}(h:VRel ρ L x x'):Q P fs Λ P.globals.size ρ L (AR ρ) (Builtin.firstCells a n x) (Builtin.firstCells a n x'):=by
 cases h with|nilSlice _ _=>exact Q.pure AR.nil|slice _ _ h=>exact co _ _ h|string s=>exact Q.pure (cX _)|_=>exact Q.stuck
def qz(h:AR ρ L z z')(n:Nat):AR ρ L (Builtin.zeroCells z n) (Builtin.zeroCells z' n):=by
 unfold Builtin.zeroCells;have:=HE (n:=n*z.size) h;rw[show n*z'.size=n*z.size by rw[h.1]];exact this
inductive Peek{α:Type}:Sem α->Prop
 |pure (a):Peek (.pure a)
 |shape {r k}:(∀s,Peek (k s))->Peek (.shape r k)
 |frozen {a k}:(∀s,Peek (k s))->Peek (.frozen a k)
def Peek.bind{X:Sem γ}{f:γ->Sem α}(h:Peek X)(c:∀a,Peek (f a)):Peek (X>>=f):=by
 show Peek (X.bind f)
 induction h with|pure a=>exact c a|shape _ b=>exact .shape b|frozen _ b=>exact .frozen b
def lp{X:Sem γ}{f:γ->Sem α}{Y:Sem β}(h:Peek X)(c:∀a,Q P fs Λ P.globals.size ρ L A (f a) Y):Q P fs Λ P.globals.size ρ L A (X>>=f) Y:=by
 intro d N;show SEqv _ _ _ _ _ _ _ _ (X.bind f) Y
 induction h with|pure a=>exact c a d N|shape _ b=>exact .shapeL b|frozen _ b=>exact .frozenL b
def bZ(a:NP)(n:Nat):Peek (Builtin.holdsCells a n):=by
 unfold Builtin.holdsCells;refine .shape λs=> ?_
 cases s<;>exact .pure _
def nj(c l n:Nat)(d:Option NP)(x:I):Peek (Builtin.mayShare c l n d x):=by
 unfold Builtin.mayShare;have e:Peek (match x with| .slice (U b) _ _=>do Pure.pure (!(<-Builtin.holdsCells b (n*c))||d.any (·.block==b.block))|_=>Pure.pure ND:Sem Bool):=by
  split
  .exact(bZ _ _).bind λ_=> .pure _
  .exact .pure _
 cases d with
 |none=>exact Peek.bind (.pure _) λb=>by cases b<;>first|exact .pure _|exact e
 |some a=>
  refine Peek.bind (X:=Builtin.holdsCells a (l*c)) (bZ _ _) λb=> .frozen λf=> ?_
  cases b<;>cases f<;>first|exact .pure _|exact e
inductive AOR(ρ:Nat->Nat)(L:Nat->Prop):Option NP->Option NP->Prop
 |none:AOR ρ L NB NB
 |some {a}:L a.block->AOR ρ L (U a) (U (Zl ρ a))
def AOR.up{a b:Option NP}(h:AOR ρ L a b)(c:∀b,L b->L' b):AOR ρ L' a b:=by
 cases h with|none=>exact .none|some h=>exact .some (c _ h)
def AOR.slice{a b:Option NP}(h:AOR ρ L a b)(l c:Nat):VRel ρ L (.slice a l c) (.slice b l c):=by
 cases h with|none=>exact .nilSlice l c|some h=>exact .slice l c h
def VRel.sliceOr{s b:I}(h:VRel ρ L s b):(∃a d l c,s= .slice a l c/\b= .slice d l c/\AOR ρ L a d)\/∀a l c,s≠.slice a l c:=by
 cases h with|nilSlice l c=>exact .inl ⟨_,_,_,_,rfl,rfl,.none⟩|slice l c h=>exact .inl ⟨_,_,_,_,rfl,rfl,.some h⟩|_=>exact .inr λa l c h=>by cases h
def pz(m:Array J)(t:J){c f:Array I}(E:EZ P m=Z)(p:AR ρ L c f):Q P fs Λ P.globals.size ρ L (VR ρ) (Builtin.append_ m t c) (Builtin.append_ m t f):=by
 unfold Builtin.append_;unfold EZ at E;cases h0:m[0]? with
 |none=>exact Q.stuck
 |some t0=>
 cases h1:c[0]? with
 |none=>exact Q.stuck
 |some s=>
 cases h2:c[1]? with
 |none=>exact Q.stuck
 |some x=>
 obtain⟨_,a0,T⟩:=p.get h1;obtain⟨x',Y,h⟩:=p.get h2;rw[a0,Y];dsimp only;cases h3:m[1]? with
 |none=>simp[h3]at E
 |some t1=>
 simp only[h0,h3,YG]at E;obtain⟨X,J5⟩:=E;refine(Za t0).bind ?_;rintro d _ _ g1 ⟨rfl,hd⟩;rw[hd]at X;cases d with
 |slice e=>
  have T:=T.up g1;have h:=h.up g1;dsimp only at X⊢;rcases T.sliceOr with⟨_,_,w,_,rfl,rfl,hb⟩|hn
  .dsimp only;refine(WH e).bind ?_;rintro g _ _ g2 rfl;refine(Za t1).bind ?_;rintro d1 _ _ g3 ⟨rfl,Xf⟩;rw[Xf]at J5;refine Q.bind (A:=λ_ a b=>a=ND/\b=ND) (Q.pure ?_) ?_
   .cases d1<;>first|exact⟨rfl,rfl⟩|simp at J5
   rintro z z' _ o ⟨rfl,rfl⟩;simp only[YR,VF,Bool.not_false,XY,false_or];have Oh:=((h.up g2).up g3).up o;have C1:=((hb.up g2).up g3).up o;refine(rf Oh).bind ?_;rintro n _ L4 F rfl;refine Q.ite UZ (λ_=> ?_) (λ_=> ?_)
   .refine(Fa g n (Oh.up F)).bind ?_;intro new j L5 V O;have Pq:=(C1.up F).up V;cases Pq with
    |none=>exact Q.pure (.nilSlice _ _)
    | @some a p=>
      dsimp only;rw[<-PS];refine(cD _ 0 L5 (by rw[Pj];exact p) O.list).bind ?_;intro _ _ L6 M _;exact Q.pure (.slice _ _ (M _ p))
   .refine(Qd e).bind ?_;rintro i _ L5 V ⟨rfl,hi⟩;refine Q.ite UZ (λ_=>Ku rfl) (λ_=> ?_);refine(Qd e).bind ?_;rintro _ _ L6 M ⟨rfl,_⟩;refine Q.ite UZ (λ_=> ?_) (λ_=> ?_)
    .rw[bind_assoc];refine lp (nj _ _ _ _ _) λb=> ?_
     cases b
     .exact λ_ _=> .mark trivial
     .exact Q.bindUnsupported (u:= .resourceLimit _) OD
    .refine Q.choose.bind ?_;rintro _ _ L7 g7 rfl;refine(Qd e).bind ?_;rintro i3 _ _ g8 ⟨rfl,_⟩;refine(C4 _).bind ?_;intro _ _ L9 g9 _;have gg:∀x,L4 x->L9 x:=λx h=>g9 x (g8 x (g7 x (M x (V x h))))
     refine(Fa g w ((C1.up λx h=>gg x (F x h)).slice _ _)).bind ?_;intro _ _ _ W Bg;refine(Fa g n (Oh.up λx h=>W x (gg x (F x h)))).bind ?_;intro new j _ H O;refine(MH e X).bind ?_;intro _ _ _ C K;refine(LC e (AR.append (((Bg.up H).up C).append (O.up C)) (qz K.cells _))).bind ?_;rintro _ _ _ _ ⟨rfl,Oi⟩;exact Q.pure (.slice _ _ Oi)
  .cases s<;>first|exact Q.stuck|exact absurd rfl (hn _ _ _)
 |_=>exact Q.stuck
end
end Go.Nk
