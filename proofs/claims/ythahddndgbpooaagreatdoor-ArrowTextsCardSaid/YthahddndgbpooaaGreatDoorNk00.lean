import Derived.Test.YthahddndgbpooaaGreatDoorNkA
import Derived.Deep.Slices
import Derived.OpenShut
set_option linter.all false
open Go
open Go renaming Value->I,Program->Z,TypeId->NT,undef->NQ,Addr->NP,World->NL
open Option renaming some->J,none->NB
open Bool renaming true->U,false->ND
variable {new:Array Event}{b':Array I}{held:Bool}{Λ:Loop->Prop}{i:Nat}{spare:Nat->Bool}{ρ':Nat->Nat}{Fz L':Nat->Prop}{o1 o2:Obj}{u:NT}{d:I}{V V' V'' V1 w w' w'' w1:NL}
namespace Go.Nk
section
open Go.Deep
def O2(P:Z):Nat->NT->Nat->List (Nat×NT)
 |0,t,o=>[(o,t)]
 |n+1,t,o=>match P.underlying t with
  |some (.struct fs)=>fs.toList.flatMap λf=>if f.offset+P.cellsOf f.type<=P.cellsOf t then O2 P n f.type (o+f.offset)else[]
  |some (.array k e)=>(List.range k).flatMap λi=>if i*P.cellsOf e+P.cellsOf e<=P.cellsOf t then O2 P n e (o+i*P.cellsOf e)else[]
  |_=>[(o,t)]
def OX{H:Type}(P:Z):Nat->NT->Nat->DataW H->List (Nat×NT×DataW H)
 |0,t,o,d=>[(o,t,d)]
 |n+1,t,o,d=>match P.underlying t,d with
  |some (.struct fs),.agg ps=>(fs.toList.zip ps).flatMap λy=>if y.1.offset+P.cellsOf y.1.type<=P.cellsOf t then OX P n y.1.type (o+y.1.offset) y.2 else[]
  |some (.array _ e),.agg ps=>ps.zipIdx.flatMap λy=>if y.2*P.cellsOf e+P.cellsOf e<=P.cellsOf t then OX P n e (o+y.2*P.cellsOf e) y.1 else[]
  |_,_=>[(o,t,d)]
def JB{α:Type}(b:List α){o c a k:Nat}(h:a+k<=c):(((b.drop o).take c).drop a).take k=(b.drop (o+a)).take k:=by
 rw[List.drop_take,List.take_take,List.drop_drop,TO OA]
section
variable {H:Type}{enc:NT×I->H}{P:Z}{base:Nat}
def DT(c:List I):∀(n:Nat)(t:NT)(o:Nat),(∃m x,DataW.trod enc P w base spare held m t ((c.drop o).take (P.cellsOf t))=J x)->
 ∀y∈O2 P n t o,∃m x,DataW.trod enc P w base spare held m y.2 ((c.drop y.1).take (P.cellsOf y.2))=J x:=by
 intro n
 induction n with
 |zero=>rintro t o h y a;obtain rfl:=XP.1 a;exact h
 |succ n z=>
  rintro t o ⟨m,x,h⟩ y a;unfold O2 at a;split at a
  .rename_i fs ht;obtain⟨p,k,rfl,rfl,F,j,g⟩:=DataW.trod_struct ht h;obtain⟨f,E,a⟩:=TV.1 a;split at a
   .rename_i Bz;obtain⟨i,hi⟩:=List.mem_iff_getElem?.1 E;have b:fs[i]? =J f:=(by simpa using hi);have C:i<p.length:=(by rw[j];exact(YF.1 b).1);have:=g i f b;rw[JB c Bz,YH C]at this;exact z _ _ ⟨_,_,this⟩ y a
   .cases a
  .rename_i k e ht;obtain⟨p,q,rfl,rfl,F,j,g⟩:=DataW.trod_array ht h;obtain⟨i,hi,a⟩:=TV.1 a;have hi:=YU.1 hi;split at a
   .rename_i Bz;have:=g i hi;rw[JB c Bz,YH OA]at this;exact z _ _ ⟨_,_,this⟩ y a
   .cases a
  .obtain rfl:=XP.1 a;exact⟨m,x,h⟩
def br(g:List I):∀(n:Nat)(t:NT)(o:Nat)(d:DataW H),(∃m p,DataW.trod enc P w base spare held m t ((g.drop o).take (P.cellsOf t))=J (d,p))->
 ∀y∈OX P n t o d,∃m p,DataW.trod enc P w base spare held m y.2.1 ((g.drop y.1).take (P.cellsOf y.2.1))=J (y.2.2,p):=by
 intro n
 induction n with
 |zero=>rintro t o d h y a;obtain rfl:=XP.1 a;exact h
 |succ n W=>
  rintro t o d ⟨m,p,h⟩ y a;unfold OX at a;split at a
  .rename_i fs ps ht;obtain⟨O,k,rfl,b,hl,M,E⟩:=DataW.trod_struct ht h;simp only[SV,DataW.agg.injEq]at b;obtain⟨rfl,_⟩:=b;obtain⟨f,F,a⟩:=TV.1 a;split at a
   .rename_i Bz;obtain⟨i,hi⟩:=List.mem_iff_getElem?.1 F;obtain⟨X,c⟩:=List.getElem?_zip_eq_some.1 hi;have j:fs[i]? =J f.1:=(by simpa using X);have:=E i f.1 j;rw[JB g Bz]at this;rw[List.getElem?_map]at c;obtain⟨z,C,x⟩:=VA.1 c;rw[C]at this;exact W _ _ _ ⟨_,z.2,by rw[this,<-x]⟩ y a
   .cases a
  .rename_i k e ps ht;obtain⟨O,q,rfl,b,hl,M,E⟩:=DataW.trod_array ht h;simp only[SV,DataW.agg.injEq]at b;obtain⟨rfl,_⟩:=b;obtain⟨f,F,a⟩:=TV.1 a;split at a
   .rename_i Bz;obtain⟨hi,c⟩:=List.mem_zipIdx' F;have T:(O.map (·.1))[f.2]? =J f.1:=(by rw[YH hi,c]);rw[List.getElem?_map]at T;obtain⟨z,C,x⟩:=VA.1 T;have Y:f.2<k:=(by rw[<-M];simpa using hi);have:=E f.2 Y;rw[JB g Bz,C]at this;exact W _ _ _ ⟨_,z.2,by rw[this,<-x]⟩ y a
   .cases a
  .obtain rfl:=XP.1 a;exact⟨m,p,h⟩
def Nt{b:List I}{o c:Nat}{v:I}(h:(b.drop o).take c=[v]):b[o]? =J v:=by
 have a:((b.drop o).take c)[0]? =J v:=by rw[h];rfl
 rw[List.getElem?_take]at a;split at a
 .rw[List.getElem?_drop]at a;exact a
 .cases a
def Xg{n:Nat}{t:NT}{k:IntKind}{o:Nat}{a:List I}(e:a.length<=P.cellsOf t)(h:∃m x,DataW.trod enc P w base spare held m t a=J x)(f:(O2 P n t 0).any (λy=>y.1==o&&y.2==u)=U)(j:P.underlying u=J (.int k)):∃x,a[o]? =J (.int k x)/\(Lit.int k x).wf=U:=by
 obtain⟨y,g,b⟩:=SM.1 f;simp only[YG,XU]at b;obtain⟨m,x,c⟩:=DT a n t 0 (by rw[VZ,XX e];exact h) y g;rw[b.1,b.2]at c;obtain⟨z,g,_,b⟩:=DataW.trod_int j c;exact⟨z,Nt g,b⟩
def lS{n:Nat}{t:NT}{o:Nat}{a:List I}(e:a.length<=P.cellsOf t)(h:∃m x,DataW.trod enc P w base spare held m t a=J x)(f:(O2 P n t 0).any (λy=>y.1==o&&y.2==u)=U)(j:P.underlying u=J .string):∃s:ByteArray,a[o]? =J (.string s)/\s.size<=maxLen:=by
 obtain⟨y,g,b⟩:=SM.1 f;simp only[YG,XU]at b;obtain⟨m,x,c⟩:=DT a n t 0 (by rw[VZ,XX e];exact h) y g;rw[b.1,b.2]at c;obtain⟨z,g,_,b⟩:=DataW.trod_string j c;exact⟨z,Nt g,b⟩
def ci{n:Nat}{t e:NT}{o:Nat}{c:List I}(z:c.length<=P.cellsOf t)(h:∃m x,DataW.trod enc P w base spare held m t c=J x)(C:(O2 P n t 0).any (λy=>y.1==o&&y.2==u)=U)(p:P.underlying u=J (.slice e)):
 ∃v m x,c[o]? =J v/\DataW.trod enc P w base spare held m u [v]=J x:=by
 obtain⟨y,j,g⟩:=SM.1 C;simp only[YG,XU]at g;obtain⟨m,x,f⟩:=DT c n t 0 (by rw[VZ,XX z];exact h) y j;rw[g.1,g.2]at f;rcases open_slice p f with⟨b,_⟩|⟨a,_,_,q,k,D,_,b,_⟩
 .exact⟨_,m,x,Nt b,by rw[<-b];exact f⟩
 .exact⟨_,m,x,Nt b,by rw[<-b];exact f⟩
end
end
class Ban where
 ban:FuncId->Bool
 arity:FuncId->Nat
 /-- May values be hidden? -/
 holes:Bool
variable [Ban]
def Zl(ρ:Nat->Nat)(a:NP):NP:={a with block:=ρ a.block}
def wild:I->Bool
 | .func (.method _) _ _=>ND
 | .pointer (J _)| .slice (J _) _ _| .map (J _)| .chan (J _)| .func _ _ _| .float _ _| .complex _ _ _| .iface _ _=>U
 |_=>ND
def bomb:I:= .func (.method "") #[.iface 1000000000 NQ] #[]
inductive VRel(ρ:Nat->Nat)(L:Nat->Prop):I->I->Prop
 |hole {v'}:Ban.holes=U->wild v'=U->VRel ρ L NQ v'
 |meth {n a c}:Ban.holes=U->VRel ρ L bomb (.func (.method n) a c)
 |bool (b):VRel ρ L (.bool b) (.bool b)
 |int (k n):VRel ρ L (.int k n) (.int k n)
 |string (s):VRel ρ L (.string s) (.string s)
 |nilFunc:VRel ρ L .nilFunc .nilFunc
 |nilIface:VRel ρ L .nilIface .nilIface
 |nilPtr:VRel ρ L (.pointer NB) (.pointer NB)
 |ptr {a}:L a.block->VRel ρ L (.pointer (J a)) (.pointer (J (Zl ρ a)))
 |nilSlice (l c):VRel ρ L (.slice NB l c) (.slice NB l c)
 |slice {a} (l c):L a.block->VRel ρ L (.slice (J a) l c) (.slice (J (Zl ρ a)) l c)
 |nilMap:VRel ρ L (.map NB) (.map NB)
 |map {r}:L r->VRel ρ L (.map (J r)) (.map (J (ρ r)))
 |nilChan:VRel ρ L (.chan NB) (.chan NB)
 |func {f a a' c c'}:Ban.ban f=ND->a.size=a'.size->(∀i,i<a.size->VRel ρ L (a.getD i NQ) (a'.getD i NQ))->
   c.size=c'.size->(∀i,i<c.size->VRel ρ L (c.getD i NQ) (c'.getD i NQ))->VRel ρ L (.func (.func f) a c) (.func (.func f) a' c')
 |yield {l a a' c c'}:L l->a.size=a'.size->(∀i,i<a.size->VRel ρ L (a.getD i NQ) (a'.getD i NQ))->
   c.size=c'.size->(∀i,i<c.size->VRel ρ L (c.getD i NQ) (c'.getD i NQ))->VRel ρ L (.func (.yield l) a c) (.func (.yield (ρ l)) a' c')
 |iface (t) {v v'}:VRel ρ L v v'->VRel ρ L (.iface t v) (.iface t v')
 |agg {cs cs'}:cs.size=cs'.size->(∀i,i<cs.size->VRel ρ L (cs.getD i NQ) (cs'.getD i NQ))->VRel ρ L (.agg cs) (.agg cs')
 |tuple {cs cs'}:cs.size=cs'.size->(∀i,i<cs.size->VRel ρ L (cs.getD i NQ) (cs'.getD i NQ))->VRel ρ L (.tuple cs) (.tuple cs')
def AR(ρ:Nat->Nat)(L:Nat->Prop)(b a:Array I):Prop:=b.size=a.size/\∀i,i<b.size->VRel ρ L (b.getD i NQ) (a.getD i NQ)
section
variable {ρ:Nat->Nat}{L:Nat->Prop}
def VRel.mono{v x:I}(h:VRel ρ L v x)(e:∀b,L b->L' b/\ρ' b=ρ b):VRel ρ' L' v x:=by
 induction h with
 |hole p h=>exact .hole p h
 |meth p=>exact .meth p
 |bool b=>exact .bool b
 |int k n=>exact .int k n
 |string s=>exact .string s
 |nilFunc=>exact .nilFunc
 |nilIface=>exact .nilIface
 |nilPtr=>exact .nilPtr
 | @ptr a h=>
   have:Zl ρ a=Zl ρ' a:=by simp[Zl,(e _ h).2]
   rw[this];exact .ptr (e _ h).1
 |nilSlice l c=>exact .nilSlice l c
 | @slice a l c h=>
   have:Zl ρ a=Zl ρ' a:=by simp[Zl,(e _ h).2]
   rw[this];exact .slice l c (e _ h).1
 |nilMap=>exact .nilMap
 | @map r h=>rw[<-(e _ h).2];exact .map (e _ h).1
 |nilChan=>exact .nilChan
 |func z g _ o _ f j=>exact .func z g f o j
 |yield y g _ o _ f j=>rw[<-(e _ y).2];exact .yield (e _ y).1 g f o j
 |iface t _ m=>exact .iface t m
 |agg g _ m=>exact .agg g m
 |tuple g _ m=>exact .tuple g m
def VRel.up{v a:I}(h:VRel ρ L v a)(e:∀b,L b->L' b):VRel ρ L' v a:=h.mono λb c=>⟨e b c,rfl⟩
def AR.mono{a c:Array I}(h:AR ρ L a c)(e:∀b,L b->L' b/\ρ' b=ρ b):AR ρ' L' a c:=⟨h.1,λi hi=>(h.2 i hi).mono e⟩
def AR.up{a c:Array I}(h:AR ρ L a c)(f:∀b,L b->L' b):AR ρ L' a c:=h.mono λb e=>⟨f b e,rfl⟩
def VRel.undef:VRel ρ L NQ NQ:= .tuple rfl (λi hi=>absurd hi OD)
def AR.at{a b:Array I}(h:AR ρ L a b)(i:Nat):VRel ρ L (a.getD i NQ) (b.getD i NQ):=by
 by_cases hi:i<a.size
 .exact h.2 i hi
 .have e1:a.getD i Go.undef=Go.undef:=by simp[Array.getD,hi]
  have e2:b.getD i Go.undef=Go.undef:=by simp[Array.getD,<-h.1,hi]
  rw[e1,e2];exact .undef
def WM{a:Array I}(h:i<a.size):a.getD i d=a[i]:=by simp[Array.getD,h]
def AR.get{a c:Array I}(h:AR ρ L a c){i:Nat}{v:I}(e:a[i]? =J v):∃b,c[i]? =J b/\VRel ρ L v b:=by
 obtain⟨hi,rfl⟩:=YF.1 e;have b:i<c.size:=h.1▸hi;have:=h.2 i hi;rw[WM hi,WM b]at this;exact⟨_,YN b,this⟩
def AR.getNone{a c:Array I}(h:AR ρ L a c){i:Nat}(b:a[i]? =NB):c[i]? =NB:=by
 simp only[Array.getElem?_eq_none_iff]at b⊢;rw[<-h.1];exact b
def AR.mk{a c:Array I}(e:a.size=c.size)(h:∀(i:Nat)(v b:I),a[i]? =J v->c[i]? =J b->VRel ρ L v b):AR ρ L a c:=by
 refine⟨e,λi hi=> ?_⟩;have b:i<c.size:=e▸hi;rw[WM hi,WM b];exact h i _ _ (YN hi) (YN b)
def AR.nil:AR ρ L #[] #[]:=⟨rfl,λi hi=>absurd hi OD⟩
def AR.push{a f:Array I}{v e:I}(h:AR ρ L a f)(j:VRel ρ L v e):AR ρ L (a.push v) (f.push e):=by
 refine AR.mk (by simp[h.1]) λi x _ c b=> ?_
 rw[Array.getElem?_push]at c b;rw[<-h.1]at b;split at c
 .rename_i hi;rw[YZ hi]at b;cases c;cases b;exact j
 .rename_i hi;rw[XB hi]at b;obtain⟨y,g,m⟩:=h.get c;rw[g]at b;cases b;exact m
def AR.one{v a:I}(b:VRel ρ L v a):AR ρ L #[v] #[a]:=AR.nil.push b
def AR.append{a j b:Array I}(h:AR ρ L a j)(m:AR ρ L b b'):AR ρ L (a++b) (j++b'):=by
 refine AR.mk (by simp[h.1,m.1]) λi x _ e c=> ?_
 rw[Array.getElem?_append]at e c;rw[<-h.1]at c;split at e
 .rename_i hi;rw[YZ hi]at c;obtain⟨y,f,g⟩:=h.get e;rw[f]at c;cases c;exact g
 .rename_i hi;rw[XB hi]at c;obtain⟨y,f,g⟩:=m.get e;rw[f]at c;cases c;exact g
def AR.set{a f:Array I}(h:AR ρ L a f)(i:Nat){v e:I}(n:VRel ρ L v e):AR ρ L (a.setIfInBounds i v) (f.setIfInBounds i e):=by
 refine AR.mk (by simp[h.1]) λj x _ c b=> ?_
 by_cases g:i=j
 .subst g;have hi:i<a.size:=by have:=(YF.1 c).1;simpa using this
  rw[YM hi]at c;rw[YM (h.1▸hi)]at b;cases c;cases b;exact n
 .rw[YO g]at c b;obtain⟨y,m,o⟩:=h.get c;rw[m]at b;cases b;exact o
def AR.extract{a e:Array I}(h:AR ρ L a e)(i j:Nat):AR ρ L (a.extract i j) (e.extract i j):=by
 refine AR.mk (by simp[h.1]) λk x _ c b=> ?_
 rw[Array.getElem?_extract]at c b;rw[<-h.1]at b;split at c
 .rename_i hi;rw[YZ hi]at b;obtain⟨y,f,g⟩:=h.get c;rw[f]at b;cases b;exact g
 .cases c
def AR.replicate(n:Nat){v c:I}(e:VRel ρ L v c):AR ρ L (Array.replicate n v) (Array.replicate n c):=by
 refine AR.mk OD λk x _ b a=> ?_
 simp only[Array.getElem?_replicate]at b a;split at b
 .rename_i hi;rw[YZ hi]at a;cases b;cases a;exact e
 .cases b
def AR.get!{a c:Array I}(h:AR ρ L a c){i:Nat}(hi:i<a.size):VRel ρ L (a[i]!) (c[i]!):=by
 have b:i<c.size:=h.1▸hi;have:=h.2 i hi;rw[WM hi,WM b]at this;simpa[getElem!_pos,hi,b]using this
def VRel.cells{v a:I}(h:VRel ρ L v a):AR ρ L v.cells a.cells:=by
 have b:=h;cases h with
 |agg f c=>exact⟨f,c⟩
 |hole _ h=>
  have e:a.cells= #[a]:=by cases a<;>first|rfl|(cases h;done)
  rw[e];exact AR.one b
 |_=>exact AR.one b
end
def liveO:Obj->Bool
 | .cells .. | .map .. | .stringIter .. | .mapIter .. | .loop _| .deferred _| .number .. =>U
 |_=>ND
def Live(V:NL)(b:Nat):Prop:=∃o,V.heap[b]? =J o/\liveO o=U
section
variable (ρ:Nat->Nat)(L:Nat->Prop)
inductive DsRel:List Deferred->List Deferred->Prop
 |nil:DsRel [] []
 |cons {r ds ds'}:L r->DsRel ds ds'->DsRel ({target:= .collected r,args:= #[]}::ds) ({target:= .collected (ρ r),args:= #[]}::ds')
structure ERel(e e':MapEntry):Prop where
 key:VRel ρ L e.key e'.key
 val:VRel ρ L e.val e'.val
 born:e.born=e'.born
inductive EsRel:List MapEntry->List MapEntry->Prop
 |nil:EsRel [] []
 |cons {e e' es es'}:ERel ρ L e e'->EsRel es es'->EsRel (e::es) (e'::es')
structure LRel(l l':Loop):Prop where
 state:l.state=l'.state
 pending:l.pending=l'.pending
 fn:l.fn=l'.fn
 tmps:AR ρ L l.tmps l'.tmps
 params:l.params=l'.params
 assign:l.assign=l'.assign
 body:l.body=l'.body
 defers:L l.defers/\l'.defers=ρ l.defers
inductive ORel(x:Bool):Obj->Obj->Prop
 |cells {c c' e f f'}:AR ρ L c c'->(x=U->f'=f)->ORel x (.cells c e f) (.cells c' e f')
 |map {es es':Array MapEntry} {clock}:EsRel ρ L es.toList es'.toList->ORel x (.map es clock) (.map es' clock)
 |stringIter (s p):ORel x (.stringIter s p) (.stringIter s p)
 |mapIter {m since seen stepped}:(∀r,m=J r->L r)->ORel x (.mapIter m since seen stepped) (.mapIter (m.map ρ) since seen stepped)
 |loop {l l'}:LRel ρ L l l'->ORel x (.loop l) (.loop l')
 |number {a lost}:L a.block->ORel x (.number a lost) (.number (Zl ρ a) lost)
 |noDefers:ORel x (.deferred NB) (.deferred NB)
 |deferred:ORel x (.deferred (J [])) (.deferred (J []))
end
section
variable {ρ:Nat->Nat}{L:Nat->Prop}
def DsRel.mono{a b:List Deferred}(h:DsRel ρ L a b)(c:∀b,L b->L' b/\ρ' b=ρ b):DsRel ρ' L' a b:=by
 induction h with|nil=>exact .nil|cons h _ e=>rw[<-(c _ h).2];exact .cons (c _ h).1 e
def DsRel.append{a c b b':List Deferred}(h:DsRel ρ L a c)(f:DsRel ρ L b b'):DsRel ρ L (a++b) (c++b'):=by
 induction h with|nil=>exact f|cons h _ e=>exact .cons h e
def EsRel.mono{a b:List MapEntry}(h:EsRel ρ L a b)(c:∀b,L b->L' b/\ρ' b=ρ b):EsRel ρ' L' a b:=by
 induction h with|nil=>exact .nil|cons h _ e=>exact .cons ⟨h.1.mono c,h.2.mono c,h.3⟩ e
def LRel.mono{a b:Loop}(h:LRel ρ L a b)(c:∀b,L b->L' b/\ρ' b=ρ b):LRel ρ' L' a b:=
 ⟨h.state,h.pending,h.fn,h.tmps.mono c,h.params,h.assign,h.body,(c _ h.defers.1).1,by rw[h.defers.2,(c _ h.defers.1).2]⟩
def ORel.mono{x:Bool}{a b:Obj}(h:ORel ρ L x a b)(c:∀b,L b->L' b/\ρ' b=ρ b):ORel ρ' L' x a b:=by
 cases h with
 |cells j f=>exact .cells (j.mono c) f
 |map h=>exact .map (h.mono c)
 |stringIter s p=>exact .stringIter s p
 | @mapIter m _ _ _ h=>
   have e:m.map ρ=m.map ρ':=by cases m with|none=>rfl|some r=>simp[(c r (h r rfl)).2]
   rw[e];exact .mapIter λr g=>(c r (h r g)).1
 |loop h=>exact .loop (h.mono c)
 | @number a _ h=>
   have:Zl ρ a=Zl ρ' a:=by simp[Zl,(c _ h).2]
   rw[this];exact .number (c _ h).1
 |noDefers=>exact .noDefers
 |deferred=>exact .deferred
def ORel.live{x:Bool}{a b:Obj}(h:ORel ρ L x a b):liveO a=U:=by cases h<;>rfl
def ORel.isChan{x:Bool}{a b:Obj}(h:ORel ρ L x a b):b.isChan=ND:=by cases h<;>rfl
end
section
variable [Ban]
def Bad:Halt->Prop
 | .stuck _=>True
 | .unsupported (.initOrder _)=>False
 | .unsupported _=>True
 |_=>False
inductive SEqv(P' P:Z)(Λ:Loop->Prop)(K:(Nat->Prop)->Prop)(ρ:Nat->Nat){α β:Type}(A:(Nat->Prop)->α->β->Prop):(Nat->Prop)->(Nat->Prop)->Sem α->Sem β->Prop
 |pure {L N a b}:A L a b->SEqv P' P Λ K ρ A L N (.pure a) (.pure b)
 |load {L N a k k'}:L a.block->(∀L' v v',(∀b,L b->L' b)->K L'->VRel ρ L' v v'->SEqv P' P Λ K ρ A L' N (k v) (k' v'))->SEqv P' P Λ K ρ A L N (.load .plain a k) (.load .plain (Zl ρ a) k')
 |store {L N a v v' k k'}:L a.block->VRel ρ L v v'->SEqv P' P Λ K ρ A L N k k'->SEqv P' P Λ K ρ A L N (.store .plain a v k) (.store .plain (Zl ρ a) v' k')
 |new {L N o o' k k'}:ORel ρ L U o o'->(∀l,o= .loop l->Λ l)->(∀r,K (λb=>L b\/b=r)->SEqv P' P Λ K ρ A (λb=>L b\/b=r) (λb=>N b\/b=r) (k r) (k' (ρ r)))->SEqv P' P Λ K ρ A L N (.new o k) (.new o' k')
 |shape {L N r k k'}:L r->(∀s,SEqv P' P Λ K ρ A L N (k s) (k' s))->SEqv P' P Λ K ρ A L N (.shape r k) (.shape (ρ r) k')
 |freeze {L N a n k k'}:N a.block->SEqv P' P Λ K ρ A L N k k'->SEqv P' P Λ K ρ A L N (.freeze a n k) (.freeze (Zl ρ a) n k')
 |getObj {L N r k k'}:L r->(∀L' o o',(∀b,L b->L' b)->K L'->ORel ρ L' U o o'->(∀l,o= .loop l->Λ l)->SEqv P' P Λ K ρ A L' N (k o) (k' o'))->SEqv P' P Λ K ρ A L N (.getObj r k) (.getObj (ρ r) k')
 |setObj {L N r o o' k k'}:L r->ORel ρ L U o o'->(∀l,o= .loop l->Λ l)->(∀c e f,o≠.cells c e f)->SEqv P' P Λ K ρ A L N k k'->SEqv P' P Λ K ρ A L N (.setObj r o k) (.setObj (ρ r) o' k')
 |choose {L N q k k'}:(∀n,SEqv P' P Λ K ρ A L N (k n) (k' n))->SEqv P' P Λ K ρ A L N (.choose q k) (.choose q k')
 |program {L N k k'}:SEqv P' P Λ K ρ A L N (k P') (k' P)->SEqv P' P Λ K ρ A L N (.program k) (.program k')
 |room {L N k k'}:SEqv P' P Λ K ρ A L N k k'->SEqv P' P Λ K ρ A L N (.mark .noRoom k) (.mark .noRoom k')
 |panic {L N v v'}:VRel ρ L v v'->SEqv P' P Λ K ρ A L N (.halt (.panic v)) (.halt (.panic v'))
 |bad {L N h Y}:Bad h->SEqv P' P Λ K ρ A L N (.halt h) Y
 |shapeL {L N r k Y}:(∀s,SEqv P' P Λ K ρ A L N (k s) Y)->SEqv P' P Λ K ρ A L N (.shape r k) Y
 |programL {L N k Y}:SEqv P' P Λ K ρ A L N (k P') Y->SEqv P' P Λ K ρ A L N (.program k) Y
 |frozenL {L N a k Y}:(∀s,SEqv P' P Λ K ρ A L N (k s) Y)->SEqv P' P Λ K ρ A L N (.frozen a k) Y
 |mark {L N m h Y}:Bad h->SEqv P' P Λ K ρ A L N (.mark m (.halt h)) Y
section
variable {P' P:Z}{K:(Nat->Prop)->Prop}{ρ:Nat->Nat}{α β γ δ:Type}{A:(Nat->Prop)->α->β->Prop}{B:(Nat->Prop)->γ->δ->Prop}{L N:Nat->Prop}
def SEqv.bind{X:Sem α}{Y:Sem β}{f:α->Sem γ}{g:β->Sem δ}(h:SEqv P' P Λ K ρ A L N X Y):
 K L->(∀a b L' m,(∀x,L x->L' x)->(∀x,N x->m x)->K L'->A L' a b->SEqv P' P Λ K ρ B L' m (f a) (g b))->SEqv P' P Λ K ρ B L N (X>>=f) (Y>>=g):=by
 show _->_->SEqv P' P Λ K ρ B L N (X.bind f) (Y.bind g)
 induction h with|pure h=>exact λc e=>e _ _ _ _ (λ_ h=>h) (λ_ h=>h) c h|load C _ j=>exact λ_ e=> .load C λL' v v' y c W=>j L' v v' y c W c λa b p m O M c T=>e a b p m (λx t=>O x (y x t)) M c T|store C W _ j=>exact λc e=> .store C W (j c e)|new z F _ j=>exact λ_ e=> .new z F λr c=>j r c c λa b L' m C F c E2=>e a b L' m (λx t=>C x (.inl t)) (λx t=>F x (.inl t)) c E2|shape E _ j=>exact λc e=> .shape E λs=>j s c e|freeze hb _ j=>exact λc e=> .freeze hb (j c e)|getObj E _ j=>exact λ_ e=> .getObj E λL' o o' y c z I5=>j L' o o' y c z I5 c λa b p m O M c T=>e a b p m (λx t=>O x (y x t)) M c T|setObj E z F hc _ j=>exact λc e=> .setObj E z F hc (j c e)|choose _ j=>exact λc e=> .choose λn=>j n c e|program _ j=>exact λc e=> .program (j c e)|room _ j=>exact λc e=> .room (j c e)|panic h=>exact λ_ _=> .panic h|bad h=>exact λ_ _=> .bad h|shapeL _ j=>exact λc e=> .shapeL λs=>j s c e|programL _ j=>exact λc e=> .programL (j c e)|frozenL _ j=>exact λc e=> .frozenL λs=>j s c e|mark h=>exact λ_ _=> .mark h
def SEqv.imp{X:Sem α}{Y:Sem β}{y:(Nat->Prop)->α->β->Prop}(h:SEqv P' P Λ K ρ A L N X Y):(∀L a b,A L a b->y L a b)->SEqv P' P Λ K ρ y L N X Y:=by
 induction h with|pure h=>exact λc=> .pure (c _ _ _ h)|load p _ e=>exact λc=> .load p λL' v z m f x=>e L' v z m f x c|store p x _ e=>exact λc=> .store p x (e c)|new g t _ e=>exact λc=> .new g t λr f=>e r f c|shape j _ e=>exact λc=> .shape j λs=>e s c|freeze C _ e=>exact λc=> .freeze C (e c)|getObj j _ e=>exact λc=> .getObj j λL' o F m f g E=>e L' o F m f g E c|setObj j g t M _ e=>exact λc=> .setObj j g t M (e c)|choose _ e=>exact λc=> .choose λn=>e n c|program _ e=>exact λc=> .program (e c)|room _ e=>exact λc=> .room (e c)|panic h=>exact λ_=> .panic h|bad h=>exact λ_=> .bad h|shapeL _ e=>exact λc=> .shapeL λs=>e s c|programL _ e=>exact λc=> .programL (e c)|frozenL _ e=>exact λc=> .frozenL λs=>e s c|mark h=>exact λ_=> .mark h
end
structure Emb(ρ:Nat->Nat)(G:Nat)(Fz:Nat->Prop)(V w:NL):Prop where
 obj:∀(b:Nat)(o:Obj),V.heap[b]? =J o->liveO o=U->∃o',w.heap[ρ b]? =J o'/\(¬Fz b->ORel ρ (Live V) U o o')/\
  (Fz b->ORel ρ (Live V) ND o o'/\∃c e hi,o= .cells c e (0,hi)/\c.size<=hi)
 inj:∀b b',Live V b->Live V b'->ρ b=ρ b'->b=b'
 fz:∀b,Fz b->b<V.heap.size
 low:∀b,Live V b->(ρ b<G↔b<G)
 gV:G<=V.heap.size
 gw:G<=w.heap.size
structure Sim0(ρ:Nat->Nat)(G:Nat)(Fz:Nat->Prop)(V w:NL):Prop extends Emb ρ G Fz V w where
 next:∀j,ρ (V.heap.size+j)=w.heap.size+j
structure Sim(ρ:Nat->Nat)(G:Nat)(Fz:Nat->Prop)(V w:NL):Prop extends Sim0 ρ G Fz V w where
 tape:∀i,V.tape (V.drawn+i)=w.tape (w.drawn+i)
def Good(ρ:Nat->Nat)(G:Nat)(L:Nat->Prop):Prop:=(∀b b',L b->L b'->ρ b=ρ b'->b=b')/\∀b,L b->(ρ b<G↔b<G)
def EvOk(ρ:Nat->Nat)(Fz:Nat->Prop)(V:NL)(e:Event):Prop:=
 (∃a wr,e=⟨.cell (Zl ρ a),wr,ND⟩/\Live V a.block/\(wr=U->¬Fz a.block))\/
 (∃r wr,e=⟨.obj (ρ r),wr,ND⟩/\Live V r/\¬Fz r)\/e=⟨.mark .noRoom,ND,U⟩
def big:I->Bool
 | .tuple _| .agg _=>U
 |_=>ND
structure Foot(ρ:Nat->Nat)(Fz:Nat->Prop)(V w V' w':NL)(new:Array Event):Prop where
 live:∀b,Live V b->Live V' b
 newly:∀b,Live V' b->Live V b\/V.heap.size<=b
 vsize:V.heap.size<=V'.heap.size
 size:w.heap.size<=w'.heap.size
 stay:∀r,r<w.heap.size->(∀b,Live V b->¬Fz b->ρ b≠r)->w'.heap[r]? =w.heap[r]?
 evs:∀e∈new,EvOk ρ Fz V' e
 tape:w'.tape=w.tape
 os:w'.os=w.os
 output:w'.output=w.output
 drawn:w.drawn<=w'.drawn
 /-- A cell of the solo world with such a value:neither was written. -/
 dark:∀a x,Live V a.block->V'.cell? a=J x->big x=U->V.cell? a=J x/\w'.cell? (Zl ρ a)=w.cell? (Zl ρ a)
section
variable {ρ:Nat->Nat}{es es':Array Event}
def Foot.refl(V w:NL):Foot ρ Fz V w V w #[]:=⟨λ_ h=>h,λ_ h=> .inl h,XA _,XA _,λ_ _ _=>rfl,λe a=>by simp at a,rfl,rfl,rfl,XA _,λ_ _ _ h _=>⟨h,rfl⟩⟩
def EvOk.mono(h:∀b,Live V b->Live V' b){e:Event}(g:EvOk ρ Fz V e):EvOk ρ Fz V' e:=by
 rcases g with⟨a,wr,e,f,c⟩|⟨r,wr,e,f,c⟩|e
 .exact .inl ⟨a,wr,e,h _ f,c⟩
 .exact .inr (.inl ⟨r,wr,e,h _ f,c⟩)
 .exact .inr (.inr e)
def Foot.trans(y:∀j,ρ (V.heap.size+j)=w.heap.size+j)(h:Foot ρ Fz V w V' w' es)(c:Foot ρ Fz V' w' V'' w'' es'):Foot ρ Fz V w V'' w'' (es++es'):=by
 refine⟨λb hb=>c.live b (h.live b hb),λb hb=> ?_,XC h.vsize c.vsize,XC h.size c.size,λr g m=> ?_,λe he=> ?_,c.tape.trans h.tape,c.os.trans h.os,c.output.trans h.output,XC h.drawn c.drawn,λa x f t hb=> ?_⟩
 .rcases c.newly b hb with hb|hb
  .exact h.newly b hb
  .exact .inr (XC h.vsize hb)
 .rw[c.stay r (YS g h.size) λb hb n he=> ?_,h.stay r g m];rcases h.newly b hb with hb|hb
  .exact m b hb n he
  .have:=y (b - V.heap.size);rw[Nat.add_sub_cancel' hb]at this;omega
 .rcases UX.1 he with he|he
  .exact(h.evs e he).mono c.live
  .exact c.evs e he
 .obtain⟨h1,h2⟩:=c.dark a x (h.live _ f) t hb;obtain⟨p,o⟩:=h.dark a x f h1 hb;exact⟨p,h2.trans o⟩
def Live.lt{b:Nat}(h:Live V b):b<V.heap.size:=by
 obtain⟨o,a,_⟩:=h;exact(YF.1 a).1
def Emb.lt{G:Nat}(h:Emb ρ G Fz V w){b:Nat}(f:Live V b):ρ b<w.heap.size:=by
 obtain⟨o,c,e⟩:=f;obtain⟨_,a,_⟩:=h.obj b o c e;exact(YF.1 a).1
def ORel.weaken{L:Nat->Prop}{a b:Obj}(h:ORel ρ L U a b):ORel ρ L ND a b:=by
 cases h with|cells c _=>exact .cells c (λh=>by cases h)|map h=>exact .map h|stringIter=>exact .stringIter ..|mapIter h=>exact .mapIter h|loop h=>exact .loop h|number h=>exact .number h|noDefers=>exact .noDefers|deferred=>exact .deferred
end
section
variable {ρ:Nat->Nat}{G:Nat}
def Emb.get(h:Emb ρ G Fz V w){b:Nat}{o:Obj}(j:V.heap[b]? =J o)(f:liveO o=U):∃a,w.heap[ρ b]? =J a/\ORel ρ (Live V) ND o a/\(¬Fz b->ORel ρ (Live V) U o a):=by
 obtain⟨a,e,c,g⟩:=h.obj b o j f;refine⟨a,e,?_,c⟩;by_cases a:Fz b
 .exact(g a).1
 .exact(c a).weaken
def HY{b:Nat}{o:Obj}(h:Emb ρ G Fz V w)(j:V.heap[b]? =J o)(g:liveO o=U)(m:∀c e f,o≠.cells c e f):¬Fz b:=λa=>by
 obtain⟨_,_,_,f⟩:=h.obj b o j g;obtain⟨_,c,e,hi,rfl,_⟩:=f a;exact m _ _ _ rfl
def Emb.cells(h:Emb ρ G Fz V w){b:Nat}{c:Array I}{e:NT}{f:Nat×Nat}(t:V.heap[b]? =J (.cells c e f)):
 ∃a g,w.heap[ρ b]? =J (.cells a e g)/\AR ρ (Live V) c a/\(¬Fz b->g=f):=by
 obtain⟨_,j,p,o⟩:=h.get t rfl;cases p with
 |cells n _=>
  refine⟨_,_,j,n,λm=> ?_⟩;have:=o m;cases this with|cells _ x=>exact x rfl
def FN{a:NP}{v:I}(h:V.cell? a=J v):∃c e f,V.heap[a.block]? =J (.cells c e f)/\a.spot=NB/\c[a.off]? =J v:=by
 unfold World.cell? at h;split at h
 .rename_i c e f hb;split at h
  .cases h
  .rename_i hs;exact⟨c,e,f,hb,by simpa using hs,h⟩
 .cases h
def Emb.cell(h:Emb ρ G Fz V w){a:NP}{v:I}(g:V.cell? a=J v):∃b,w.cell? (Zl ρ a)=J b/\VRel ρ (Live V) v b:=by
 obtain⟨c,e,f,c,m,n⟩:=FN g;obtain⟨_,_,e,f,_⟩:=h.cells c;obtain⟨b,c,j⟩:=f.get n;exact⟨b,by simp[World.cell?,Zl,e,m,c],j⟩
def cu{a:NP}(h:Live V a.block)(s:String):V.noCell a s= .stuck s:=by
 obtain⟨o,b,c⟩:=h;unfold World.noCell;rw[b];cases o<;>simp[liveO]at c<;>rfl
def bj{a:NP}(h:Live V a.block)(P:Z)(m:Bool):V.farLoad P a m= .error (.stuck "load: no such cell"):=by
 have e:=cu h "load: no such cell";obtain⟨o,b,c⟩:=h;unfold World.farLoad;rw[b];cases o<;>simp[liveO]at c<;>simp only[e]
def jA{a:NP}(h:Live V a.block)(P:Z)(v:I)(m:Bool):V.farStore P a v m= .error (.stuck "store: no such cell"):=by
 have e:=cu h "store: no such cell";obtain⟨o,b,c⟩:=h;unfold World.farStore;rw[b];cases o<;>simp[liveO]at c<;>simp only[e]
def AZ{b:Nat}{c:Array I}{e:NT}{f:Nat×Nat}(h:V.heap[b]? =J (.cells c e f)):Live V b:=⟨_,h,rfl⟩
def eg{b:Nat}{o c:Obj}(e:V.heap[b]? =J o)(g:liveO o=U)(a:liveO c=U)(x:Nat):
 Live {V with heap:=V.heap.setIfInBounds b c} x↔Live V x:=by
 have h:=(YF.1 e).1;by_cases f:b=x
 .subst f;exact⟨λ_=>⟨o,e,g⟩,λ_=>⟨c,by rw[YM h],a⟩⟩
 .unfold Live;simp only[YO f]
def Sim0.turn(h:Sim0 ρ G Fz V w){b:Nat}{o o1 o2:Obj}(g:V.heap[b]? =J o)(p:liveO o=U)(f:¬Fz b)(E:ORel ρ (Live V) U o1 o2):
 Sim0 ρ G Fz {V with heap:=V.heap.setIfInBounds b o1} {w with heap:=w.heap.setIfInBounds (ρ b) o2}:=by
 have m:=eg g p E.live;have O:=(YF.1 g).1;obtain⟨_,T,_,_⟩:=h.get g p;have X:=(YF.1 T).1;have t:∀x,Live V x->Live {V with heap:=V.heap.setIfInBounds b o1} x/\ρ x=ρ x:=λx a=>⟨(m x).2 a,rfl⟩
 refine{obj:=λx y c C=> ?_,inj:=λx y a c=>h.inj x y ((m x).1 a) ((m y).1 c),fz:=λx a=>by simpa using h.fz x a,low:=λx a=>h.low x ((m x).1 a),gV:=by simpa using h.gV,gw:=by simpa using h.gw,next:=λj=>by simpa using h.next j};by_cases a:b=x
 .subst a;rw[YM O]at c;cases c;exact⟨o2,by rw[YM X],λ_=>E.mono t,λx=>absurd x f⟩
 .rw[YO a]at c;have F:ρ b≠ρ x:=λe=>a (h.inj b x ⟨o,g,p⟩ ⟨y,c,C⟩ e)
  obtain⟨W,n,M,z⟩:=h.obj x y c C;exact⟨W,by rw[YO F];exact n,λf=>(M f).mono t,λf=>⟨(z f).1.mono t,(z f).2⟩⟩
def Sim.turn(h:Sim ρ G Fz V w){b:Nat}{o o1 o2:Obj}(f:V.heap[b]? =J o)(c:liveO o=U)(a:¬Fz b)(e:ORel ρ (Live V) U o1 o2):
 Sim ρ G Fz {V with heap:=V.heap.setIfInBounds b o1} {w with heap:=w.heap.setIfInBounds (ρ b) o2}:=⟨h.toSim0.turn f c a e,h.tape⟩
def dD{b:Nat}{a:NP}(h:b≠a.block):World.cell? {V with heap:=V.heap.setIfInBounds b o1} a=V.cell? a:=by
 unfold World.cell?;rw[YO h]
def du(V:NL)(a x:NP)(n:Nat):(V.freeze a n).cell? x=V.cell? x:=by
 unfold World.freeze;split
 .rfl
 .unfold World.cell?;rw[Array.getElem?_modify];by_cases h:a.block=x.block
  .rw[YZ h];cases V.heap[x.block]? with|none=>rfl|some o=>cases o<;>rfl
  .rw[XB h]
def J0{b:Nat}{o:Obj}(j:V.heap[b]? =J o)(m:liveO o=U)(p:¬Fz b)(g:liveO o1=U){new:Array Event}
 (y:∀e∈new,EvOk ρ Fz V e)(f:∀x,Live V x->ρ b=ρ x->b=x)
 (n:∀a x,a.block=b->World.cell? {V with heap:=V.heap.setIfInBounds b o1} a=J x->big x=U->V.cell? a=J x/\World.cell? {w with heap:=w.heap.setIfInBounds (ρ b) o2} (Zl ρ a)=w.cell? (Zl ρ a)):Foot ρ Fz V w {V with heap:=V.heap.setIfInBounds b o1} {w with heap:=w.heap.setIfInBounds (ρ b) o2} new:=by
 have h:=eg j m g
 exact⟨λx c=>(h x).2 c,λx c=> .inl ((h x).1 c),OD,OD,λr _ t=>YO (t b ⟨o,j,m⟩ p),λe t=>(y e t).mono λx c=>(h x).2 c,rfl,rfl,rfl,XA _,λa x t c h=>by
  by_cases e:a.block=b
  .exact n a x e c h
  .rw[dD (SJ e)]at c;refine⟨c,dD λe2=>e (f _ t ?_).symm⟩;exact e2⟩
def EH{es:Array Event}(a:∀e∈es,EvOk ρ Fz V e):Foot ρ Fz V w V w es:=⟨λ_ h=>h,λ_ h=> .inl h,XA _,XA _,λ_ _ _=>rfl,a,rfl,rfl,rfl,XA _,λ_ _ _ h _=>⟨h,rfl⟩⟩
def IQ{a:Array Obj}{b:Nat}{o:Obj}(f:Obj->Obj)(h:a[b]? =J o):a.modify b f=a.setIfInBounds b (f o):=by
 obtain⟨_,rfl⟩:=YF.1 h;apply Array.ext
 .simp
 .intro i h1 h2;simp only[Array.getElem_modify,Array.getElem_setIfInBounds (by simpa using h1)];split<;>simp_all
def KF{o:Obj}{x:Nat}(h:Live V x):Live {V with heap:=V.heap.push o} x:=by
 have a:=h.lt;obtain⟨y,b,a⟩:=h;exact⟨y,by rw[Array.getElem?_push,XB OA];exact b,a⟩
def Dk{o:Obj}(a:liveO o=U):Live {V with heap:=V.heap.push o} V.heap.size:=⟨o,OD,a⟩
def LG{o:Obj}{x:Nat}(h:Live {V with heap:=V.heap.push o} x)(c:x≠V.heap.size):Live V x:=by
 obtain⟨y,a,b⟩:=h;rw[Array.getElem?_push,XB c]at a;exact⟨y,a,b⟩
def Sim.push(h:Sim ρ G Fz V w){o n:Obj}(t:ORel ρ (Live V) U o n):Sim ρ G Fz {V with heap:=V.heap.push o} {w with heap:=w.heap.push n}:=by
 have f:ρ V.heap.size=w.heap.size:=by simpa using h.next 0
 have g:∀x,Live V x->Live {V with heap:=V.heap.push o} x/\ρ x=ρ x:=λx a=>⟨KF a,rfl⟩
 refine{obj:=λx y b p=> ?_,inj:=λx y a b m=> ?_,fz:=λx a=>by have:=h.fz x a;simp;omega,low:=λx a=> ?_,gV:=by have:=h.gV;simp;omega,gw:=by have:=h.gw;simp;omega,tape:=h.tape,next:=λj=> ?_}
 .rw[Array.getElem?_push]at b;split at b
  .rename_i a;cases b;subst a;exact⟨n,by rw[f];simp,λ_=>t.mono g,λe=>absurd (h.fz _ e) OA⟩
  .obtain⟨o'',hw,h1,h2⟩:=h.obj x y b p;have z:=(YF.1 hw).1;exact⟨o'',by rw[Array.getElem?_push,XB OA];exact hw,λe=>(h1 e).mono g,λe=>⟨(h2 e).1.mono g,(h2 e).2⟩⟩
 .by_cases hx':x=V.heap.size<;>by_cases c:y=V.heap.size
  .omega
  .have:=h.lt (LG b c);rw[hx',f]at m;omega
  .have:=h.lt (LG a hx');rw[c,f]at m;omega
  .exact h.inj x y (LG a hx') (LG b c) m
 .by_cases hx':x=V.heap.size
  .have:=h.gV;have:=h.gw;rw[hx',f];omega
  .exact h.low x (LG a hx')
 .have:=h.next (j+1);simp only[Array.size_push];rw[show V.heap.size+1+j=V.heap.size+(j+1)from by omega,this];omega
def CN{o:Obj}{a:NP}(h:a.block<V.heap.size):World.cell? {V with heap:=V.heap.push o} a=V.cell? a:=by
 unfold World.cell?;rw[Array.getElem?_push,XB OA]
def nT(o n:Obj)(m:∀b,Live V b->ρ b<w.heap.size):Foot ρ Fz V w {V with heap:=V.heap.push o} {w with heap:=w.heap.push n} #[]:=by
 refine⟨λx c=>KF c,λx ⟨y,f,h⟩=> ?_,OD,OD,λr _ _=> ?_,λe j=>by simp at j,rfl,rfl,rfl,XA _,λa x g c _=>⟨by rw[CN g.lt]at c;exact c,CN (m _ g)⟩⟩
 .rw[Array.getElem?_push]at f;split at f
  .right;omega
  .exact .inl ⟨y,f,h⟩
 .show(w.heap.push _)[r]? =_;rw[Array.getElem?_push,XB OA]
def Emb.shape(h:Emb ρ G Fz V w){r:Nat}(c:Live V r):w.shape? (ρ r)=V.shape? r:=by
 obtain⟨o,a,f⟩:=c;obtain⟨_,b,g,_⟩:=h.get a f;cases g with|cells e _=>simp[World.shape?,b,a,e.1]|_=>simp[World.shape?,b,a]
end
def ePA:(Mode.plain==Mode.atomic)=ND:=rfl
def LoopsOk(Λ:Loop->Prop)(V:NL):Prop:=∀(b:Nat)(l:Loop),V.heap[b]? =J (Obj.loop l)->Λ l
def LoopsOk.set(h:LoopsOk Λ V){o:Obj}(c:∀l,o= .loop l->Λ l)(b:Nat):LoopsOk Λ {V with heap:=V.heap.setIfInBounds b o}:=by
 intro x l a;have a:(V.heap.setIfInBounds b o)[x]? =J (Obj.loop l):=a;rw[Array.getElem?_setIfInBounds]at a;split at a
 .split at a
  .exact c l (YT a)
  .cases a
 .exact h x l a
def LoopsOk.push{Λ:Loop->Prop}{V:NL}(h:LoopsOk Λ V){o:Obj}(b:∀l,o= .loop l->Λ l):LoopsOk Λ {V with heap:=V.heap.push o}:=by
 intro x l a;have a:(V.heap.push o)[x]? =J (Obj.loop l):=a;rw[Array.getElem?_push]at a;split at a
 .exact b l (YT a)
 .exact h x l a
def Both{α β:Type}(Λ:Loop->Prop)(ρ:Nat->Nat)(G:Nat)(Fz:Nat->Prop)(A:(Nat->Prop)->α->β->Prop)(V w:NL)(es:Array Event)(x:Result α)(y:Result β×Array Event):Prop:=
 (∃h V1,x= .halt h V1/\Bad h)\/
 ∃V' w' new,Sim ρ G Fz V' w'/\LoopsOk Λ V'/\Foot ρ Fz V w V' w' new/\
  ((∃a b L,x= .ok a V'/\y=(.ok b w',es++new)/\(∀b,L b->Live V' b)/\A L a b)\/(∃v a,x= .halt (.panic v) V'/\y=(.halt (.panic a) w',es++new)/\VRel ρ (Live V') v a))
section
variable {α β:Type}{ρ:Nat->Nat}{G:Nat}{A:(Nat->Prop)->α->β->Prop}{es:Array Event}
def Both.step{x:Result α}{y:Result β×Array Event}(m:∀j,ρ (V.heap.size+j)=w.heap.size+j)(c:Foot ρ Fz V w V1 w1 new){es':Array Event}(f:es'=es++new)
 (h:Both Λ ρ G Fz A V1 w1 es' x y):Both Λ ρ G Fz A V w es x y:=by
 subst f;rcases h with h|⟨V',w',a,g,e,b,h⟩
 .exact .inl h
 .refine .inr ⟨V',w',new++a,g,e,c.trans m b,?_⟩;rw[Array.append_assoc]at h;exact h
variable {P' P:Z}
def Good.sub{L:Nat->Prop}(h:Good ρ G L')(a:∀b,L b->L' b):Good ρ G L:=⟨λb b' e c=>h.1 b b' (a b e) (a b' c),λb c=>h.2 b (a b c)⟩
def Emb.good(h:Emb ρ G Fz V w):Good ρ G (Live V):=⟨h.inj,h.low⟩
def SEqv.run{L N:Nat->Prop}{X:Sem α}{Y:Sem β}(h:SEqv P' P Λ (Good ρ G) ρ A L N X Y):
 ∀(V w:NL)(es:Array Event),Sim ρ G Fz V w->LoopsOk Λ V->(∀b,L b->Live V b)->(∀b,N b->Live V b/\¬Fz b)->
  Both Λ ρ G Fz A V w es (X.run P' V) (Y.runT P w es):=by
 induction h with
 | @pure L N a b h=>
   intro V w es g z p _;exact .inr ⟨V,w,#[],g,z,Foot.refl V w,.inl ⟨_,_,L,rfl,by simp[Sem.runT],p,h⟩⟩
 | @load L N a k W ha _ E=>
   intro V w es g z p C;simp only[Sem.run,Sem.runT];cases T:V.cell? a with
   |none=>
    simp only[bj (p _ ha)];exact .inl ⟨_,_,rfl,trivial⟩
   |some v=>
    obtain⟨v',hw,hv⟩:=g.cell T;rw[hw];refine Both.step g.next (EH (es:= #[⟨.cell (Zl ρ a),ND,ND⟩]) (λx t=> ?_)) (by rw[ePA];simp) (E (Live V) v v' p g.good hv V w _ g z (λ_ h=>h) C);simp at t;subst t;exact .inl ⟨a,ND,rfl,p _ ha,λh=>by cases h⟩
 | @store L N a v v' k W ha hv _ E=>
   intro V w es g z p C;by_cases h1:∃c,v= .agg c
   .obtain⟨c,rfl⟩:=h1;exact .inl ⟨.stuck "store: not the value of one cell",V,by rw[Sem.run],trivial⟩
   by_cases h2:∃c,v= .tuple c
   .obtain⟨c,rfl⟩:=h2;exact .inl ⟨.stuck "store: not the value of one cell",V,by rw[Sem.run],trivial⟩
   have hX:(Sem.store .plain a v k).run P' V=(match V.cell? a with
    |some _=>if V.frozen? a then Result.halt (.unsupported (.unsafePointer "a write to bytes that a string shares")) V else k.run P' (V.setCell a v)
    |none=>match V.farStore P' a v (Mode.plain==Mode.atomic)with
     | .ok (w,_)=>k.run P' w
     | .error h=> .halt h V):=by
    cases v<;>first|rfl|exact absurd ⟨_,rfl⟩ h1|exact absurd ⟨_,rfl⟩ h2
   have hY:(Sem.store .plain (Zl ρ a) v' W).runT P w es=(match w.cell? (Zl ρ a)with
    |some _=>if w.frozen? (Zl ρ a)then(Result.halt (.unsupported (.unsafePointer "a write to bytes that a string shares")) w,es)else W.runT P (w.setCell (Zl ρ a) v') (es.push ⟨.cell (Zl ρ a),U,Mode.plain==Mode.atomic⟩)
    |none=>match w.farStore P (Zl ρ a) v' (Mode.plain==Mode.atomic)with
     | .ok (w,touched)=>W.runT P w (es++touched.toArray.map (⟨.cell ·,U,Mode.plain==Mode.atomic⟩))
     | .error h=>(.halt h w,es)):=by
    cases hv with|agg _ _=>exact absurd ⟨_,rfl⟩ h1|tuple _ _=>exact absurd ⟨_,rfl⟩ h2|hole _ _=>exact absurd ⟨[].toArray,rfl⟩ h2|_=>rfl
   rw[hX,hY];cases T:V.cell? a with
   |none=>
    simp only[jA (p _ ha)];exact .inl ⟨_,_,rfl,trivial⟩
   |some _=>
    obtain⟨_,Pp,_⟩:=g.cell T;simp only[Pp];obtain⟨c,e,f,j,Dt,T5⟩:=FN T;have T6:a.off<c.size:=(YF.1 T5).1;by_cases Mh:V.frozen? a=U
    .simp only[Mh,XY];exact .inl ⟨_,_,rfl,trivial⟩
    .have F:¬Fz a.block:=λhF=>by
      obtain⟨_,_,_,h3⟩:=g.obj _ _ j rfl;obtain⟨_,c',_,hi,he,_⟩:=h3 hF;cases he;apply Mh;simp only[World.frozen?,j];simp;omega
     obtain⟨c',f',Jv,a4,a5⟩:=g.cells j;obtain rfl:=a5 F;have a3:V.frozen? a=ND:=(by simpa using Mh);have Ys:w.frozen? (Zl ρ a)=ND:=by
      have h0:=a3;simp only[World.frozen?,j]at h0;simp only[World.frozen?,Zl,Jv];exact h0
     simp only[a3,Ys,YR,VF];have e1:V.setCell a v={V with heap:=V.heap.setIfInBounds a.block (.cells (c.setIfInBounds a.off v) e f')}:=by
      simp only[World.setCell];rw[IQ _ j];simp[Dt]
     have e2:w.setCell (Zl ρ a) v'={w with heap:=w.heap.setIfInBounds (ρ a.block) (.cells (c'.setIfInBounds a.off v') e f')}:=by
      simp only[World.setCell,Zl];rw[IQ _ Jv];simp[Dt]
     rw[e1,e2]
     have hr:ORel ρ (Live V) U (.cells (c.setIfInBounds a.off v) e f') (.cells (c'.setIfInBounds a.off v') e f'):=
      .cells (a4.set _ (hv.mono λb j=>⟨p b j,rfl⟩)) (λ_=>rfl)
     have M:=J0 (w:=w) (o1:= .cells (c.setIfInBounds a.off v) e f') (o2:= .cells (c'.setIfInBounds a.off v') e f') (new:= #[⟨.cell (Zl ρ a),U,ND⟩]) (Fz:=Fz) (ρ:=ρ) j rfl F rfl (λx t=>by
      simp at t;subst t;exact .inl ⟨a,U,rfl,AZ j,λ_=>F⟩) (λx t e=>g.inj _ _ (AZ j) t e) (λa0 x e t J4=>by
      have A5:=(YF.1 j).1;have Po:=(YF.1 Jv).1;have Ab:a.off≠a0.off:=by
       intro eo;simp only[World.cell?,e,YM A5]at t;split at t
       .cases t
       .rw[<-eo,YM T6]at t;cases t;cases v<;>first|exact h1 ⟨_,rfl⟩|exact h2 ⟨_,rfl⟩|cases J4
      constructor
      .simp only[World.cell?,e,YM A5]at t;simp only[World.cell?,e,j];rw[YO Ab]at t;exact t
      .simp only[World.cell?,Zl,e,YM Po,Jv];rw[YO Ab])
     exact Both.step g.next M (by rw[ePA];simp) (E _ _ _ (g.turn j rfl F hr) (z.set (λl h=>by cases h) _) (λb h=>M.live b (p b h)) (λb h=>⟨M.live b (C b h).1,(C b h).2⟩))
 | @new L N o o' k W ho G2 _ E=>
   intro V w es g z p C;simp only[Sem.run,Sem.runT];have h0:ρ V.heap.size=w.heap.size:=by simpa using g.next 0
   have a1:ORel ρ (Live V) U o o':=ho.mono λb j=>⟨p b j,rfl⟩
   have:=E V.heap.size ((g.push a1).good.sub λb j=>j.elim (λh=>KF (p b h)) (λh=>h▸Dk ho.live)) {V with heap:=V.heap.push o} {w with heap:=w.heap.push o'} es (g.push a1) (z.push G2)
    (λb j=>j.elim (λh=>KF (p b h)) (λh=>h▸Dk ho.live))
    (λb j=>j.elim (λh=>⟨KF (C b h).1,(C b h).2⟩) (λh=>h▸⟨Dk ho.live,λM=>absurd (g.fz _ M) OA⟩))
   rw[h0]at this;exact Both.step g.next (nT o o' λb j=>g.lt j) OD this
 | @shape L N r k W hr _ E=>
   intro V w es g z p C;simp only[Sem.run,Sem.runT];rw[g.shape (p r hr)];exact E _ V w es g z p C
 | @freeze L N a n k W ha _ E=>
   intro V w es g z p C;simp only[Sem.run,Sem.runT];obtain⟨⟨o,j,O⟩,F⟩:=C _ ha;by_cases hn:n=0
   .subst hn;simp only[World.freeze,XY];exact E V w es g z p C
   .obtain⟨ow,Jv,_,h2⟩:=g.get j O;have hr:=h2 F;have e1:∃o1 o2,ORel ρ (Live V) U o1 o2/\V.freeze a n={V with heap:=V.heap.setIfInBounds a.block o1}/\w.freeze (Zl ρ a) n={w with heap:=w.heap.setIfInBounds (ρ a.block) o2}/\∀l,o1= .loop l->o= .loop l:=by
     simp only[World.freeze,hn,VF,Zl];rw[IQ _ j,IQ _ Jv];cases hr with
     |cells h1 h3=>obtain rfl:=h3 rfl;exact⟨_,_,.cells h1 (λ_=>rfl),rfl,rfl,λl h=>by cases h⟩
     |map h=>exact⟨_,_,.map h,rfl,rfl,λl h=>by cases h⟩
     |stringIter=>exact⟨_,_,.stringIter ..,rfl,rfl,λl h=>by cases h⟩
     |mapIter h=>exact⟨_,_,.mapIter h,rfl,rfl,λl h=>by cases h⟩
     |loop h=>exact⟨_,_,.loop h,rfl,rfl,λl h=>h⟩
     |number h=>exact⟨_,_,.number h,rfl,rfl,λl h=>by cases h⟩
     |noDefers=>exact⟨_,_,.noDefers,rfl,rfl,λl h=>by cases h⟩
     |deferred=>exact⟨_,_,.deferred,rfl,rfl,λl h=>by cases h⟩
    obtain⟨o1,o2,a2,e1,e2,I5⟩:=e1;rw[e1,e2]
    have M:=J0 (w:=w) (o2:=o2) (new:= #[]) (Fz:=Fz) (ρ:=ρ) j O F a2.live (λe he=>by simp at he) (λx t e=>g.inj _ _ ⟨_,j,O⟩ t e) (λa0 x e t J4=>by
     rw[<-e1,du]at t;exact⟨t,by rw[<-e2,du]⟩)
    exact Both.step g.next M OD (E _ _ _ (g.turn j O F a2) (z.set (λl h=>z _ l (by rw[j,I5 l h])) _) (λb h=>M.live b (p b h)) (λb h=>⟨M.live b (C b h).1,(C b h).2⟩))
 | @getObj L N r k W hr _ E=>
   intro V w es g z p C;simp only[Sem.run,Sem.runT];obtain⟨o,j,O⟩:=p r hr;by_cases T:∃c e f,o= .cells c e f
   .obtain⟨c,e,f,rfl⟩:=T;rw[j];exact .inl ⟨_,_,rfl,trivial⟩
   .have F:=HY g.toEmb j O (λc e f h=>T ⟨c,e,f,h⟩);obtain⟨ow,Jv,_,h2⟩:=g.get j O;have ho:=h2 F;rw[j,Jv];have e1:∀(γ:Type)(x y:γ),(match o with| .cells .. =>x|_=>y)=y:=by
     intro γ x y;cases o<;>first|rfl|exact absurd ⟨_,_,_,rfl⟩ T
    have:=E (Live V) o ow p g.good ho (λl h=>z r l (by rw[j,h])) V w (es.push ⟨.obj (ρ r),ND,ND⟩) g z (λ_ h=>h) C
    have C3:∀x∈#[(⟨.obj (ρ r),ND,ND⟩:Event)],EvOk ρ Fz V x:=λx t=>by
     simp at t;subst t;exact .inr (.inl ⟨r,ND,rfl,⟨_,j,O⟩,F⟩)
    have Hi:=Both.step g.next (EH (w:=w) C3) (es:=es) OD this;cases ho with|cells _ _=>exact absurd ⟨_,_,_,rfl⟩ T|_=>exact Hi
 | @setObj L N r o o' k W hr ho G2 Hj _ E=>
   intro V w es g z p C;simp only[Sem.run,Sem.runT];obtain⟨o0,j,O⟩:=p r hr;by_cases T:∃c e f,o0= .cells c e f
   .obtain⟨c,e,f,rfl⟩:=T;rw[j];exact .inl ⟨_,_,rfl,trivial⟩
   .have F:=HY g.toEmb j O (λc e f h=>T ⟨c,e,f,h⟩);obtain⟨ow,Jv,_,h2⟩:=g.get j O;have h0:=h2 F;rw[j,Jv];have a1:ORel ρ (Live V) U o o':=ho.mono λb j=>⟨p b j,rfl⟩
    have Yt:=ho.isChan
    have M:=J0 (w:=w) (o1:=o) (o2:=o') (new:= #[⟨.obj (ρ r),U,ND⟩]) (Fz:=Fz) (ρ:=ρ) j O F ho.live (λx t=>by
     simp at t;subst t;exact .inr (.inl ⟨r,U,rfl,⟨_,j,O⟩,F⟩)) (λx t e=>g.inj _ _ ⟨_,j,O⟩ t e) (λa0 x e t J4=>by
     have A5:=(YF.1 j).1;simp only[World.cell?,e,YM A5]at t;split at t
     .rename_i h9;cases h9;exact absurd rfl (Hj _ _ _)
     .cases t)
    have Hi:=Both.step g.next M (es:=es) (es':=es.push ⟨.obj (ρ r),U,o'.isChan⟩) (by rw[Yt];simp) (E _ _ _ (g.turn j O F a1) (z.set G2 _) (λb h=>M.live b (p b h)) (λb h=>⟨M.live b (C b h).1,(C b h).2⟩));cases h0 with|cells _ _=>exact absurd ⟨_,_,_,rfl⟩ T|_=>exact Hi
 | @choose L N q k W _ E=>
   intro V w es g z p C;simp only[Sem.run,Sem.runT];by_cases hq:q.forced=U
   .simp only[hq,XY];exact E 0 V w es g z p C
   .simp only[hq,VF,YR];have hT:V.tape V.drawn q=w.tape w.drawn q:=(by have:=g.tape 0;simp only[RS]at this;rw[this]);rw[hT]
    have a6:Sim ρ G Fz {V with drawn:=V.drawn+1} {w with drawn:=w.drawn+1}:=
     {obj:=g.obj,inj:=g.inj,fz:=g.fz,low:=g.low,gV:=g.gV,gw:=g.gw,tape:=λi=>by have:=g.tape (1+i);simp only[<-TA]at this;exact this,next:=g.next}
    have M:Foot ρ Fz V w {V with drawn:=V.drawn+1} {w with drawn:=w.drawn+1} #[]:=⟨λ_ h=>h,λ_ h=> .inl h,XA _,XA _,λ_ _ _=>rfl,λe he=>by simp at he,rfl,rfl,rfl,QW _,λ_ _ _ h _=>⟨h,rfl⟩⟩;exact Both.step g.next M OD (E _ _ _ es a6 z p C)
 | @program L N k W _ E=>
   intro V w es g z p C;simp only[Sem.run,Sem.runT];exact E V w es g z p C
 | @room L N k W _ E=>
   intro V w es g z p C;simp only[Sem.run,Sem.runT];refine Both.step g.next (EH (es:= #[⟨.mark .noRoom,ND,U⟩]) (λx t=> ?_)) OD (E V w _ g z p C);simp at t;exact .inr (.inr t)
 | @panic L N v v' hv=>
   intro V w es g z p _;exact .inr ⟨V,w,#[],g,z,Foot.refl V w,.inr ⟨v,v',rfl,by simp[Sem.runT],hv.mono λb j=>⟨p b j,rfl⟩⟩⟩
 | @bad L N h Y j=>
   intro V w es _ _ _ _;exact .inl ⟨h,V,rfl,j⟩
 | @shapeL L N r k Y _ E=>
   intro V w es g z p C;simp only[Sem.run];exact E _ V w es g z p C
 | @programL L N k Y _ E=>
   intro V w es g z p C;simp only[Sem.run];exact E V w es g z p C
 | @frozenL L N a k Y _ E=>
   intro V w es g z p C;simp only[Sem.run];exact E _ V w es g z p C
 | @mark L N m h Y j=>
   intro V w es _ _ _ _;exact .inl ⟨h,V,rfl,j⟩
end
def Z6(P:Z)(fs:Array Func):Z:={P with funcs:=fs}
@[simp] def PN (P:Z) (fs:Array Func) (t:NT):(Z6 P fs).info? t=P.info? t:=rfl
@[simp] def Xb (P:Z) (fs:Array Func) (t:NT):(Z6 P fs).underlying t=P.underlying t:=rfl
@[simp] def BT (P:Z) (fs:Array Func):(Z6 P fs).rt=P.rt:=rfl
@[simp] def aN (P:Z) (fs:Array Func):(Z6 P fs).types=P.types:=rfl
@[simp] def GS (P:Z) (fs:Array Func):(Z6 P fs).globals=P.globals:=rfl
@[simp] def dq (P:Z) (fs:Array Func):(Z6 P fs).cutTypes=P.cutTypes:=rfl
@[simp] def Tu (P:Z) (fs:Array Func):(Z6 P fs).depth=P.depth:=rfl
@[simp] def WZ (P:Z) (fs:Array Func) (t:NT):(Z6 P fs).cellsOf t=P.cellsOf t:=rfl
@[simp] def U0 (P:Z) (fs:Array Func) (t:NT):(Z6 P fs).bytesOf t=P.bytesOf t:=rfl
def plainV:Nat->I->Bool
 |0,_=>ND
 |_+1,.bool _|_+1,.int _ _|_+1,.string _|_+1,.nilFunc|_+1,.nilIface
 |_+1,.pointer NB|_+1,.slice NB _ _|_+1,.map NB|_+1,.chan NB=>U
 |n+1,.func (.func f) a c=> !Ban.ban f&&a.toList.all (plainV n)&&c.toList.all (plainV n)
 |n+1,.iface _ v=>plainV n v
 |n+1,.agg cs|n+1,.tuple cs=>cs.toList.all (plainV n)
 |_,_=>ND
section
variable {ρ:Nat->Nat}{L:Nat->Prop}
def IH{a:Array I}(h:∀v∈a.toList,VRel ρ L v v):AR ρ L a a:=
 AR.mk rfl λi v _ c b=>by
  rw[c]at b;cases b;exact h v (RD.2 (Array.mem_of_getElem? c))
def VRel.plain:∀{n:Nat}{v:I},plainV n v=U->VRel ρ L v v:=by
 intro n
 induction n with
 |zero=>intro v h;simp[plainV]at h
 |succ n f=>
  intro v h;cases v with
  |bool _|int _ _|string _|nilFunc|nilIface=>constructor
  |float _ _|complex _ _ _=>simp[plainV]at h
  |pointer a=>cases a with|none=>constructor|some _=>simp[plainV]at h
  |slice a _ _=>cases a with|none=>constructor|some _=>simp[plainV]at h
  |map a=>cases a with|none=>constructor|some _=>simp[plainV]at h
  |chan a=>cases a with|none=>constructor|some _=>simp[plainV]at h
  |func j a c=>
   cases j<;>simp only[plainV,YG,YL,YR,XZ]at h
   have b:=IH (ρ:=ρ) (L:=L) λv e=>f (h.1.2 v e)
   have g:=IH (ρ:=ρ) (L:=L) λv e=>f (h.2 v e)
   exact .func h.1.1 b.1 b.2 g.1 g.2
  |iface t v=>simp only[plainV]at h;exact .iface t (f h)
  |agg m=>simp only[plainV,YL]at h;have b:=IH (ρ:=ρ) (L:=L) λv e=>f (h v e);exact .agg b.1 b.2
  |tuple m=>simp only[plainV,YL]at h;have b:=IH (ρ:=ρ) (L:=L) λv e=>f (h v e);exact .tuple b.1 b.2
end
def Ui(P:Z)(t:NT):Bool:=match P.info? t with|some i=>i.zero.all (plainV 3)|none=>U
abbrev VR(ρ:Nat->Nat)(L:Nat->Prop)(a b:I):Prop:=VRel ρ L a b
abbrev EQ{α:Type}(_:Nat->Prop)(a b:α):Prop:=a=b
abbrev AdR(ρ:Nat->Nat)(L:Nat->Prop)(a b:NP):Prop:=b=Zl ρ a/\L a.block
abbrev TT{α β:Type}(_:Nat->Prop)(_:α)(_:β):Prop:=True
def Q(P:Z)(fs:Array Func)(Λ:Loop->Prop)(G:Nat)(ρ:Nat->Nat)(L:Nat->Prop){α β:Type}(A:(Nat->Prop)->α->β->Prop)(X:Sem α)(Y:Sem β):Prop:=
 Good ρ G L->∀N,SEqv (Z6 P fs) P Λ (Good ρ G) ρ A L N X Y
section
variable {P:Z}{fs:Array Func}{G:Nat}{ρ:Nat->Nat}{L:Nat->Prop}
variable {α β γ δ:Type}{A:(Nat->Prop)->α->β->Prop}{B:(Nat->Prop)->γ->δ->Prop}
def Q.bind{X:Sem α}{Y:Sem β}{f:α->Sem γ}{g:β->Sem δ}(h:Q P fs Λ G ρ L A X Y)(e:∀a b L',(∀x,L x->L' x)->A L' a b->Q P fs Λ G ρ L' B (f a) (g b)):Q P fs Λ G ρ L B (X>>=f) (Y>>=g):=
 λc N=>(h c N).bind c λa b L' j n _ c m=>e a b L' n m c j
def Q.pure{a:α}{b:β}(h:A L a b):Q P fs Λ G ρ L A (Pure.pure a) (Pure.pure b):=λ_ _=> .pure h
def Q.stuck{s:String}{Y:Sem β}:Q P fs Λ G ρ L A (stuck s:Sem α) Y:=λ_ _=> .bad trivial
def Q.unsupported{u:Unsupported}(a:∀g,u≠.initOrder g){Y:Sem β}:Q P fs Λ G ρ L A (unsupported u:Sem α) Y:=λ_ _=> .bad (by cases u<;>first|trivial|exact absurd rfl (a _))
def Q.imp{c:(Nat->Prop)->α->β->Prop}{X:Sem α}{Y:Sem β}(h:Q P fs Λ G ρ L A X Y)(e:∀L a b,A L a b->c L a b):Q P fs Λ G ρ L c X Y:=λa N=>(h a N).imp e
def Q.program{f:Z->Sem α}{g:Z->Sem β}(h:Q P fs Λ G ρ L A (f (Z6 P fs)) (g P)):Q P fs Λ G ρ L A (Go.program>>=f) (Go.program>>=g):=λa N=> .program (h a N)
def Q.bindStuck{s:String}{f:γ->Sem α}{Y:Sem β}:Q P fs Λ G ρ L A ((Go.stuck s:Sem γ)>>=f) Y:=λ_ _=> .bad trivial
def Q.bindUnsupported{u:Unsupported}(a:∀g,u≠.initOrder g){f:γ->Sem α}{Y:Sem β}:Q P fs Λ G ρ L A ((Go.unsupported u:Sem γ)>>=f) Y:=λ_ _=> .bad (by cases u<;>first|trivial|exact absurd rfl (a _))
def Q.good{X:Sem α}{Y:Sem β}(h:Good ρ G L->Q P fs Λ G ρ L A X Y):Q P fs Λ G ρ L A X Y:=λa=>h a a
def Q.choose{q:Question}:Q P fs Λ G ρ L EQ (Go.choose q) (Go.choose q):=λ_ _=> .choose λ_=> .pure rfl
def Qd(t:NT):Q P fs Λ G ρ L (λ_ a b=>a=b/\P.info? t=J b) (typeInfo t) (typeInfo t):=by
 unfold typeInfo;refine Q.program ?_;simp only[PN];cases P.info? t with|none=>exact Q.stuck|some i=>exact Q.pure ⟨rfl,rfl⟩
def Za(t:NT):Q P fs Λ G ρ L (λ_ a b=>a=b/\P.underlying t=J b) (underlying t) (underlying t):=by
 unfold Go.underlying;refine Q.program ?_;simp only[Xb];cases P.underlying t with|none=>exact Q.stuck|some i=>exact Q.pure ⟨rfl,rfl⟩
def WH(t:NT):Q P fs Λ G ρ L EQ (sizeOf t) (sizeOf t):=(Qd t).bind λ_ _ _ _ h=>Q.pure (by rw[EQ,h.1])
def dV(t:NT):Q P fs Λ G ρ L EQ (isAgg t) (isAgg t):=by
 refine(Za t).bind ?_;rintro d _ L' _ ⟨rfl,_⟩;cases d<;>exact Q.pure rfl
def MH(t:NT)(h:Ui P t=U):Q P fs Λ G ρ L (VR ρ) (zeroValue t) (zeroValue t):=by
 refine(Qd t).bind ?_;rintro i _ L' _ ⟨rfl,hi⟩;cases hz:i.zero with
 |none=>exact Q.unsupported OD
 |some v=>
  refine Q.pure ?_;simp only[Ui,hi,hz,Option.all_some]at h;exact VRel.plain h
def aJ(a:NP)(c:L a.block):Q P fs Λ G ρ L (VR ρ) (load a) (load (Zl ρ a)):=λ_ _=> .load c λ_ _ _ _ _ b=> .pure b
def qD(a:NP){v b:I}(e:L a.block)(c:VRel ρ L v b):Q P fs Λ G ρ L (TT (α:=Unit) (β:=Unit)) (store a v) (store (Zl ρ a) b):=λ_ _=> .store e c (.pure trivial)
def PS(a:NP)(n:Nat):Zl ρ (a.add n)=(Zl ρ a).add n:=by
 unfold Addr.add Zl;split<;>rfl
def Pj(a:NP)(n:Nat):(a.add n).block=a.block:=by unfold Addr.add;split<;>rfl
def pW(a:NP):∀(n:Nat)(i:Nat)(L:Nat->Prop)(c b:Array I),L a.block->AR ρ L c b->Q P fs Λ G ρ L (AR ρ) (loadCellsFrom a i n c) (loadCellsFrom (Zl ρ a) i n b):=by
 intro n
 induction n with
 |zero=>exact λi L c b _ h=>Q.pure h
 |succ n g=>
  intro i L c b e h;unfold loadCellsFrom;rw[<-PS];refine(aJ _ (by rw[Pj];exact e)).bind ?_;intro v _ L' f j;exact g (i+1) L' _ _ (f _ e) ((h.up f).push j)
def co(a:NP)(n:Nat)(b:L a.block):Q P fs Λ G ρ L (AR ρ) (loadCells a n) (loadCells (Zl ρ a) n):=pW a n 0 L #[] #[] b AR.nil
inductive VsRel(ρ:Nat->Nat)(L:Nat->Prop):List I->List I->Prop
 |nil:VsRel ρ L [] []
 |cons {v v' vs vs'}:VRel ρ L v v'->VsRel ρ L vs vs'->VsRel ρ L (v::vs) (v'::vs')
def VsRel.of_get:∀{l b:List I},l.length=b.length->(∀(i:Nat)(v a:I),l[i]? =J v->b[i]? =J a->VRel ρ L v a)->VsRel ρ L l b
 |[],[],_,_=> .nil
 |[],_::_,h,_=>by simp at h
 |_::_,[],h,_=>by simp at h
 |v::l,a::b,h,hg=> .cons (hg 0 v a rfl rfl) (VsRel.of_get (by simpa using h) λi x c b a=>hg (i+1) x c (by simpa using b) (by simpa using a))
def AR.list{a c:Array I}(h:AR ρ L a c):VsRel ρ L a.toList c.toList:=
 VsRel.of_get (by simpa using h.1) λi v _ e b=>by
  simp only[Array.getElem?_toList]at e b;obtain⟨y,f,g⟩:=h.get e;rw[f]at b;cases b;exact g
def VsRel.up{L':Nat->Prop}{l a:List I}(h:VsRel ρ L l a)(e:∀b,L b->L' b):VsRel ρ L' l a:=by
 induction h with|nil=>exact .nil|cons h _ c=>exact .cons (h.up e) c
def cD(a:NP):∀{c b:List I}(i:Nat)(L:Nat->Prop),L a.block->VsRel ρ L c b->Q P fs Λ G ρ L (TT (α:=Unit) (β:=Unit)) (storeCells a c i) (storeCells (Zl ρ a) b i):=by
 intro c
 induction c with
 |nil=>intro b i L _ h;cases h;exact Q.pure trivial
 |cons v c j=>
  intro b i L e h;cases h with
  |cons m g=>
   simp only[storeCells];rw[<-PS];exact(qD _ (by rw[Pj];exact e) m).bind λ_ _ L' f _=>j (i+1) L' (f _ e) (g.up f)
def aQ(t:NT)(a:NP)(c:L a.block):Q P fs Λ G ρ L (VR ρ) (loadVar t a) (loadVar t (Zl ρ a)):=by
 unfold loadVar;refine(dV t).bind ?_;rintro b _ _ e rfl;cases b
 .simp only[YR,VF];exact aJ a (e _ c)
 .simp only[↓reduceIte];refine(WH t).bind ?_;rintro n _ _ f rfl;refine(co a n (f _ (e _ c))).bind ?_;intro _ _ _ _ h;exact Q.pure (.agg h.1 h.2)
def pI(t:NT)(a:NP){v b:I}(g:L a.block)(f:VRel ρ L v b):Q P fs Λ G ρ L (TT (α:=Unit) (β:=Unit)) (storeVar t a v) (storeVar t (Zl ρ a) b):=by
 unfold storeVar;refine(WH t).bind ?_;rintro n _ h c rfl;have e:=f.cells;rw[<-e.1];split
 .exact Q.bindStuck
 .exact cD a 0 h (c _ g) (e.list.up c)
def LC(e:NT){b a:Array I}(h:AR ρ L b a):Q P fs Λ G ρ L (AdR ρ) (newRow e b) (newRow e a):=
 λ_ _=> .new (.cells h λ_=>rfl) (λ_ h=>by cases h) λ_ _=> .pure ⟨rfl,.inr rfl⟩
def CL(t:NT){v a:I}(b:VRel ρ L v a):Q P fs Λ G ρ L (AdR ρ) (newVar t v) (newVar t a):=LC t b.cells
def Tn(t:NT){f c:Array I}(h:AR ρ L f c)(a:Nat):Q P fs Λ G ρ L (VR ρ) (part t f a) (part t c a):=by
 unfold part;refine(dV t).bind ?_;rintro b _ _ g rfl;cases b
 .simp only[YR,VF];cases hc:f[a]? with
  |none=>exact Q.stuck
  |some v=>
   obtain⟨_,e,m⟩:=h.get hc;rw[e];exact Q.pure (m.up g)
 .simp only[↓reduceIte];refine(WH t).bind ?_;rintro n _ _ j rfl;have:=(h.up g).up j |>.extract a (a+n)
  exact Q.pure (.agg this.1 this.2)
def If{v c:I}(h:VRel ρ L v c):Q P fs Λ G ρ L (fun(_:Nat->Prop)(a b:IntKind×Int)=>a=b/\v= .int b.1 b.2/\c=v) (asIntOf v) (asIntOf c):=by
 cases h with|int k n=>exact Q.pure ⟨rfl,rfl,rfl⟩|ptr _=>exact Q.unsupported OD|_=>exact Q.stuck
def Iu{v a:I}(h:VRel ρ L v a):Q P fs Λ G ρ L EQ (asInt v) (asInt a):=(If h).bind λ_ _ _ _ h=>Q.pure (by rw[EQ,h.1])
def DF{v a:I}(h:VRel ρ L v a):Q P fs Λ G ρ L EQ (asBool v) (asBool a):=by
 cases h with|bool b=>exact Q.pure rfl|_=>exact Q.stuck
def qk{v a:I}(h:VRel ρ L v a):Q P fs Λ G ρ L (AR ρ) (asAgg v) (asAgg a):=by
 cases h with|agg c b=>exact Q.pure ⟨c,b⟩|_=>exact Q.stuck
def JI{v a:I}(h:VRel ρ L v a):Q P fs Λ G ρ L A (goPanic v:Sem α) (goPanic a:Sem β):=λ_ _=> .panic h
def lightE:RuntimeError->Bool
 | .bounds .. | .error _| .plain _| .nilDeref=>U
 |_=>ND
def V4(e:RuntimeError)(h:lightE e=U):Q P fs Λ G ρ L A (runtimePanic e:Sem α) (runtimePanic e:Sem β):=by
 unfold runtimePanic;refine Q.program ?_;cases e with|bounds x y _ c=>exact JI (VRel.plain (n:=3) rfl)|error m=>exact JI (VRel.plain (n:=3) rfl)|plain m=>exact JI (VRel.plain (n:=3) rfl)|nilDeref=>exact JI (VRel.plain (n:=3) rfl)|typeAssertion _ _ _ _|panicNil|unhashable _=>simp[lightE]at h
def Ly(k:IntKind)(x y:Int)(c:BoundsCode):Q P fs Λ G ρ L A (boundsPanic k x y c:Sem α) (boundsPanic k x y c:Sem β):=by
 unfold boundsPanic;dsimp only;split
 .refine Q.bind (A:=EQ) (λ_ N=> .choose λn=> .pure rfl) ?_;intro a b L' _ h;subst h;exact V4 _ rfl
 .refine Q.bind (A:=EQ) (Q.pure rfl) ?_;intro a b L' _ h;subst h;exact V4 _ rfl
def AL{v a:I}(h:VRel ρ L v a):Q P fs Λ G ρ L (AdR ρ) (asAddr v) (asAddr a):=by
 cases h with|ptr h=>exact Q.pure ⟨rfl,h⟩|nilPtr=>exact V4 .nilDeref rfl|_=>exact Q.stuck
def KO{v a:I}(h:VRel ρ L v a):Q P fs Λ G ρ L (AdR ρ) (Instr.sureAddr v) (Instr.sureAddr a):=by
 cases h with|ptr h=>exact Q.pure ⟨rfl,h⟩|_=>exact Q.stuck
def C4(n:Nat):Q P fs Λ G ρ L (TT (α:=Unit) (β:=Unit)) (askRoom n) (askRoom n):=by
 unfold askRoom;split
 .exact λ_ _=> .room (.pure trivial)
 .exact Q.pure trivial
end
end
end Go.Nk
