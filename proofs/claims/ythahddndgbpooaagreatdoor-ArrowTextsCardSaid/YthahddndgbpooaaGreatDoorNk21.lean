import Derived.Test.YthahddndgbpooaaGreatDoorNk20
set_option linter.all false
set_option maxRecDepth 100000
set_option maxHeartbeats 2000000
open Go Go.Proofs.Tryq
open Option renaming some->I,none->Z
open Go.Obj renaming cells->J
open Go.Value renaming slice->U,int->NE,agg->NJ,pointer->NI
open Go renaming World->NL,Value->NM,Act->NV,execOp->NU,Calls->NW,Program->NO,Addr->NP,undef->NQ
open Bool renaming true->NC,false->ND
open Go.IntKind renaming i64->NF
open Go.Proofs.Tryp renaming prog->NY
variable {a act:NV}{ops:Array Oper}{R:Exit->NV->NL->Prop}{c m:Int}{l l':List Nat}{p q r x:List UInt8}{xs:List NM}{B b b0 cp e k n n0 sb sz t:Nat}{X:Nat->Prop}{o:Oper}{ao:Option NP}{row:Option Nat}{P:NO}{v x0 x1 x2 x3 x4:NM}{W W' w w' w0:NL}
namespace Go.Proofs.Tryp
open Go.Nk Go.RowKit Go.Shelf Go.Proofs
attribute [local instance] k3
def oJ(v:NM)(w:NL):(method 457 96 v "nock/arrow.head").run NY w= .ok (252,v) w:=OB
def qj(v:NM)(w:NL):(method 457 98 v "nock/arrow.head").run NY w= .ok (253,v) w:=OB
def re(a b c m:Int)(w:NL):NW NY 252 #[NJ #[a,b,c,m]] w (OI (.bool NC) w):=by
 go_enter fq Tryz.func252,Tryz.ntmps252;go_wp2;go_ret;exact⟨rfl,(Ext.rfl' w).alloc _⟩
def eu(x:Sf)(w:NL):NW NY 253 #[NJ #[.string x.nm,x.a0,x.a1,x.b0,x.b1,x.c0,x.c1]] w (OI (.bool ND) w):=by
 go_enter fq Tryz.func253,Tryz.ntmps253;go_wp2;go_ret;exact⟨rfl,(Ext.rfl' w).alloc _⟩
@[local go_sem] def ta96 (v:NM) (w:NL):(Instr.typeAssert (.iface 96 v) 94 96 NC).run NY w= .ok (.tuple #[v,.bool NC]) w:=OB
@[local go_sem] def ta98 (v:NM) (w:NL):(Instr.typeAssert (.iface 98 v) 94 98 NC).run NY w= .ok (.tuple #[v,.bool NC]) w:=OB
@[local go_sem] def tb98 (v:NM) (w:NL):(Instr.typeAssert (.iface 98 v) 94 96 NC).run NY w= .ok (.tuple #[NJ #[NE NF 0,NE NF 0,NE NF 0,NE NF 0],.bool ND]) w:=OB
def u24p:Tryp.prog.underlying 24=I (.slice 51):=(underlying_eq 24).trans Tryz.underlying24
def i51p:Tryp.prog.info? 51=I Tryz.t51:=OB
def t51z:Tryz.t51.zero=I (NJ #[.string ⟨#[]⟩,NE NF 0,NE NF 0,NE NF 0,NE NF 0,NE NF 0,NE NF 0]):=OB
def t51s:Tryz.t51.size=7:=OB
def t51b:Tryz.t51.bytes=64:=OB
def sfC(x:Sf):List NM:=[.string x.nm,NE NF x.a0,NE NF x.a1,NE NF x.b0,NE NF x.b1,NE NF x.c0,NE NF x.c1]
def Xy(b:Nat)(w:NL)(v:NM)(L:List Sf):Prop:=w.ownsRow b 51 7 v L.length (L.flatMap sfC)
def Ix(h:Ext w0 W)(j:w0.heap.size<=sb)(u:sb<n0)(k:Kpt sb n0 W W')(f:W'.os=W.os)(d:W'.tape=W.tape)(g:W'.output=W.output):Ext w0 W':=
 ⟨XC h.size k.others.size,λb i=>(k.low b OA OA).trans (h.old b i),d.trans h.tape,f.trans h.os,g.trans h.output⟩
def AV(w:NL)(l:List NM)(t:TypeId)(j:Nat)(u:NM)(h:l[j]? =I u):(w.alloc (J l.toArray t)).cell? ((⟨w.heap.size,0,Z⟩:NP).add j)=I u:=by
 rw[ZU,Z0 (by rw[Z3,YZ rfl])];simpa using h
def pl(a b c m:Int)(sb n0:Nat)(v:NM)(w:NL)(y u A j:NM)(d:w.heap[sb]? =I (J #[y,u,A,j,v] 26))(C:n0<=w.heap.size):
 NW NY 46 #[.iface 96 (NJ #[a,b,c,m]),NI (I sb)] w λe w'=>e= .returned (.bool NC)/\w'.heap[sb]? =I (J #[a,b,c,m,v] 26)/\
  Kpt sb n0 w w'/\(∀L,sb<n0->Xy n0 w v L->Xy n0 w' v L)/\w'.os=w.os/\w'.tape=w.tape/\w'.output=w.output:=by
 have q0:=Z0 d 0;have q1:=Z0 d 1;have q2:=Z0 d 2;have q3:=Z0 d 3;have f:=Z8 d 0;have f:=Z8 d 1;have f:=Z8 d 2;have f:=Z8 d 3;simp only[YC,YA,YB]at q0 q1 q2 q3;have f:=Z5 d;replace d:Hid _:=d;go_enter fq Tryz.func46,Tryz.ntmps46;go_wp2;go_ret;have h:=Zb (Zb (Zb (Zb d.out (i:=0) (NE NF a)) (i:=1) (NE NF b)) (i:=2) (NE NF c)) (i:=3) (NE NF m);simp only[VM,UJ,UU]at h;have g:=((((VO w sb (NE NF a)).trans (VO _ ⟨sb,1,Z⟩ (NE NF b))).trans (VO _ ⟨sb,2,Z⟩ (NE NF c))).trans (VO _ ⟨sb,3,Z⟩ (NE NF m))).trans (TI _ (J #[a,b,c,m] 96));refine⟨rfl,?_,⟨λk _ f=> ?_,g⟩,λL g z=> ?_,rfl,rfl,rfl⟩
 .rw[Z3,XB (by simp;omega)];exact h
 .rw[Z3,XB (by simp;omega)];rw[set_ne f,set_ne f,set_ne f,set_ne f]
 .exact World.ownsRow.alloc (XK (XK (XK (XK z (a:=⟨sb,0,Z⟩) g _) (a:=⟨sb,1,Z⟩) g _) (a:=⟨sb,2,Z⟩) g _) (a:=⟨sb,3,Z⟩) g _) _
def jX(x:Sf)(sb n0:Nat)(v:NM)(L:List Sf)(w:NL)(O K V F:NM)(f:w.heap[sb]? =I (J #[O,K,V,F,v] 26))(hn:n0<=w.heap.size)(hb:sb<n0)(C:Xy n0 w v L)(hl:L.length<=3000):
 NW NY 46 #[.iface 98 (NJ #[.string x.nm,x.a0,x.a1,x.b0,x.b1,x.c0,x.c1]),NI (I sb)] w λe w'=>e= .returned (.bool NC)/\∃H,w'.heap[sb]? =I (J #[O,K,V,F,H] 26)/\
  Xy n0 w' H (L++[x])/\Kpt sb n0 w w'/\w'.os=w.os/\w'.tape=w.tape/\w'.output=w.output:=by
 have q4:=Z0 f 4;have z4:=Z8 f 4;simp only[YC,YA,YB]at q4;have A5:=Z5 f;have Fx:L.length+1<=maxLen:=by simp[maxLen];omega
 have Ef:(L.length+1)*64<=140737488355328:=OA
 replace f:Hid _:=f;replace hl:Hid _:=hl;go_enter fq Tryz.func46,Tryz.ntmps46
 go_wp2_with (
  at_builtin
  refine UB _ rfl _ _ 24 rfl n0 51 Tryz.t51 _ 7 64 u24p i51p t51z t51s t51b rfl OC _ _ _ rfl (((show w.ownsRow n0 51 7 v L.length (L.flatMap sfC)from C).alloc _).alloc _) ⟨w.heap.size+1,0,Z⟩ 1 1 (sfC x) rfl rfl (by have:=AV (w.alloc (.cells (sfC x).toArray 98)) (sfC x) 51;rw[Z2]at this;exact this) (by intro u hu;simp only[sfC,XG,XO,UE]at hu;rcases hu with rfl|rfl|rfl|rfl|rfl|rfl|rfl<;>rfl) Fx Ef (by simp only[Z2];omega) ?_;intro H z Ae A6 _;obtain⟨A,d,rfl,_,_⟩:=XT Ae OA;have Y:z.heap[sb]? =I (J #[O,K,V,F,v] 26):=Vx A6 (λe=>by have:=(C.lt _ e.symm).1;omega) ((((Ext.rfl' w).alloc _).alloc _).get f.out);have r4:=Z0 Y 4;have f4:=Z8 Y 4;simp only[YC,YA,YB]at r4)
 go_ret;have Bv:∀(j:Nat)(o:Obj),v.ownBlock=I j->((w.alloc (.cells (sfC x).toArray 98)).alloc (.cells (sfC x).toArray 51)).heap[j]? =I o->o.isCells=NC:=by
  intro j o hj h;rcases(((show w.ownsRow n0 51 7 v L.length (L.flatMap sfC)from C).alloc (.cells (sfC x).toArray 98)).alloc (.cells (sfC x).toArray 51)).2 with⟨rfl,_⟩|⟨g,cp,_,rfl,_,M,_⟩
  .cases hj
  .cases hj;rw[M]at h;cases h;rfl
 have y:((w.alloc (.cells (sfC x).toArray 98)).alloc (.cells (sfC x).toArray 51)).grownBy z v.ownBlock:=A6;have T:=VT z ⟨sb,4,Z⟩ (U (I A) (L.length+1) d);have hk:=(((TI w (.cells (sfC x).toArray 98)).trans (TI _ (.cells (sfC x).toArray 51))).trans (TW y Bv)).trans (VO z ⟨sb,4,Z⟩ (U (I A) (L.length+1) d));have g5:=Zb Y (i:=4) (U (I A) (L.length+1) d);simp only[VM,UJ,UU]at g5;refine⟨rfl,_,g5,?_,⟨λk _ h2=> ?_,hk⟩,T.os.trans y.os,T.tape.trans y.tape,T.output.trans y.output⟩
 .have:=XK Ae (a:=⟨sb,4,Z⟩) hb (U (I A) (L.length+1) d);simpa[Xy]using this
 .rw[set_ne h2,y.block k (by simp only[Z2];omega) (λe=>by have:=(C.lt _ e.symm).1;omega)];exact(((Ext.rfl' w).alloc _).alloc _).old k OA
def aP(h:w.ownsRow n0 e sz v n xs)(y:w.grownBy w' row)(u:∀r,row=I r->r<n0\/∃o:Obj,w.heap[r]? =I o/\o.isCells=ND):w'.ownsRow n0 e sz v n xs:=by
 refine h.kept y ?_;cases hv:v.ownBlock with
 |none=>exact .inl rfl
 |some k=>
  refine .inr λq=> ?_
  obtain⟨c,z⟩:∃c,w.heap[k]? =I (J c e):=by
   rcases h.2 with⟨rfl,_⟩|⟨g,cp,d,rfl,_,i,_⟩
   .cases hv
   .cases hv;exact⟨d,i⟩
  rcases u k q.symm with f|⟨o,f,j⟩
  .have:=(h.lt k hv).1;omega
  .rw[z]at f;cases f;cases j
def FM{α:Type}(f:α->List NM)(k:Nat)(d:∀x,(f x).length=k):∀(L:List α)(i:Nat)(x:α)(j:Nat),L[i]? =I x->j<k->(L.flatMap f)[i*k+j]? =(f x)[j]?
 |y::L,0,x,j,h,hj=>by
  simp at h;subst h;rw[UN,Nat.zero_mul,VD,List.getElem?_append_left (by rw[d];exact hj)]
 |y::L,i+1,x,j,h,hj=>by
  have e:(i+1)*k+j - k=i*k+j:=by rw[QX];omega
  rw[UN,List.getElem?_append_right (by rw[d,QX];omega),d,e];exact FM f k d L i x j (by simpa using h) hj
def HP{L:List Sf}(h:Xy b w v L)(M:∀x∈L,x.nm.size<=maxLen):∃f C,v= U f L.length C/\RawA w f L:=by
 cases L with
 |nil=>
  rcases h.2 with⟨z,_⟩|⟨g,cp,_,z,_⟩
  .exact⟨_,_,z,λi x A=>by simp at A⟩
  .exact⟨_,_,z,λi x A=>by simp at A⟩
 |cons y L=>
  obtain⟨g,cp,z,_,K⟩:=XT h OD;refine⟨_,_,z,λi x A=> ?_⟩;subst z
  have d:∀(j:Nat)(u:NM),j<7->(sfC x)[j]? =I u->w.cell? ⟨g,0+i*7+j,Z⟩=I u:=λj u F H=>by
   have:=h.cells (g:=g) rfl (i*7+j) u (by rw[FM sfC 7 (λ_=>rfl) _ i x j A F];exact H);rw[ZU]at this;rw[VD];exact this
  exact⟨g,0,rfl,K,⟨d 0 _ OA rfl,d 1 _ OA rfl,d 2 _ OA rfl,d 3 _ OA rfl,d 4 _ OA rfl,d 5 _ OA rfl,d 6 _ OA rfl⟩,M x (YQ A)⟩
end Go.Proofs.Tryp
namespace Go.Nk
section
open Go.Region
section
variable {E:NL->NL->Prop}
def Kc(P:NO)(ops:Array Oper)(R:Exit->NV->NL->Prop)(E:NL->NL->Prop)(t:Nat):Nat->Array Bool->NV->NL->Prop
 |0,listed,a,w=>Region.ready .any ops listed=[]/\R .normal a w
 |n+1,listed,a,w=>(Region.ready .any ops listed=[]->R .normal a w)/\∀i∈Region.ready .any ops listed,
   wpOp P ops FQ i (λd W'=>(i<t->E w W')/\Kc P ops R E t n (listed.setIfInBounds i NC) d W') a w
def wpAny_of_Z:∀(n:Nat)(l:Array Bool)(a:NV)(w:NL),Kc P ops R E t n l a w->wpAny P .any ops R n l a w
 |0,_,_,w,h=>h
 |n+1,_,_,w,h=>⟨h.1,λi hi=>OZ noFQ (λd w' f=>wpAny_of_Z n _ d w' f.2) (h.2 i hi)⟩
def pt(K:Pre E){i:Nat}{z:Oper}{v:NM}(hi:ops[i]? =I z)(T:∀(j:Nat)(o:Oper) F b,ops[j]? =I o->o.op≠.select F b)(Al:HU ops t i=NC):
 ∀(n:Nat)(f:Array Bool)(a:NV)(w:NL),Closed ops f->
  (∀j C,ops[j]? =I C->j≠i->f.getD j NC=ND->(∀e∈C.after,Region.binds .any e=NC->e.on≠i)->z.apart ops C=NC)->
  i∈Region.ready .any ops f->YX P ops E w z v a->Kc P ops R E t n (f.setIfInBounds i NC) (a.put z.dst v) w->Kc P ops R E t (n+1) f a w:=by
 intro n
 induction n with
 |zero=>
  intro f a w _ _ g M H;refine⟨λh=>(by rw[h]at g;cases g),λj A=> ?_⟩;by_cases y:j=i
  .subst y;exact M.wpOp K hi ⟨λ_=>K.rfl' w,H⟩
  .have:=UV A y;rw[H.1]at this;cases this
 |succ n ih=>
  intro f a w hc Y g M H;refine⟨λh=>(by rw[h]at g;cases g),λj A=> ?_⟩;by_cases y:j=i
  .subst y;exact M.wpOp K hi ⟨λ_=>K.rfl' w,H⟩
  .obtain⟨Ec,C,Ce,Au⟩:=UL.1 A;have De:=Y j C Ce y Ec (JW (j:=j) (UL.1 g).1 Au)
   have Ed:∀k L,ops[k]? =I L->k≠i->(f.setIfInBounds j NC).getD k NC=ND->
    (∀e∈L.after,Region.binds .any e=NC->e.on≠i)->z.apart ops L=NC:=λk L hk Hb Je Co=>by
    refine Y k L hk Hb ?_ Co;by_cases O:j=k
    .subst O;exact Ec
    .rw[TX NC O]at Je;exact Je
   have h1:=H.2 j (UV A y);refine RQ (λ_ w' h3=> ?_) (LQ Ce De (λF b=>T j C F b Ce) h1);obtain⟨⟨u,d,rfl⟩,V,h5⟩:=h3;refine⟨V,ih (f.setIfInBounds j NC) _ w' (hc.set A) Ed (UV g (SJ y)) (YX.kept De (λF b=>T i z F b hi) (M.ext K (V (qC hc Al g A)))) ?_⟩;rw[UP _ _ y];exact h5
def LZE(P:NO)(ops:Array Oper)(R:Exit->NV->NL->Prop)(E:NL->NL->Prop)(t:Nat)(l:List Nat)(a:NV)(w:NL):Prop:=Kc P ops R E t (ops.size - l.length) (mark ops.size l) a w
def GJ(ops:Array Oper)(t:Nat)(l:List Nat)(k:Nat):Bool:=decide (l.length<ops.size)&&(Region.ready .any ops (mark ops.size l)).contains k&&Region.free .any ops (mark ops.size l) k&&HU ops t k&&dM ops l
def mW(f:Pre E){k:Nat}{o:Oper}{v:NM}{a:NV}{w:NL}(z:Region.noSelect ops=NC)(hi:ops[k]? =I o)(d:GJ ops t l k=NC)(i:YX P ops E w o v a)(h:LZE P ops R E t (k::l) (a.put o.dst v) w):LZE P ops R E t l a w:=by
 unfold GJ at d;simp only[YG,XE]at d;obtain⟨⟨⟨⟨_,y⟩,j⟩,u⟩,g⟩:=d;unfold LZE at*;rw[show ops.size - l.length=(ops.size - (k::l).length)+1 by simp only[YP];omega];exact pt f hi (RE z) u _ _ a w (pP g) (Region.free_spec hi j) (by simpa using y) i h
def PV(k:Nat){o:Oper}{a:NV}{w:NL}(hi:ops[k]? =I o)(f:(decide (l.length<ops.size)&&Region.ready .any ops (mark ops.size l)==[k])=NC)(g:Region.wanted o (yielded ops a.tmps)=NC)
 (h:o.wp P a w (λj W'=>(k<t->E w W')/\LZE P ops R E t (k::l) j W') FQ):LZE P ops R E t l a w:=by
 simp only[YG,XE,XU]at f;unfold LZE at*;rw[show ops.size - l.length=(ops.size - (k::l).length)+1 by simp only[YP];omega];refine⟨λu=>(by rw[u]at f;cases f.2),λi d=> ?_⟩;rw[f.2]at d;obtain rfl:i=k:=by simpa using d
 unfold wpOp;simp only[hi,g,XY];exact .inl h
def aC(d:(ops.size==l.length&&(Region.ready .any ops (mark ops.size l)).isEmpty)=NC)(h:R .normal a w):LZE P ops R E t l a w:=by
 rw[YG,XU,QF]at d;unfold LZE;rw[show ops.size - l.length=0 by omega];exact⟨d.2,h⟩
def Hp(ops:Array Oper)(t:Nat):List Nat->List Nat->Bool
 |[],_=>NC
 |k::ks,l=>GJ ops t l k&&(match ops[k]? with|some o=>OW o|none=>ND)&&Hp ops t ks (k::l)
def oR(j:Pre E){w:NL}(H:Region.noSelect ops=NC):∀(d l:List Nat)(a:NV),Hp ops t d l=NC->wpQuiet P ops (λw'=>∃p:GrE E w,w'=p.W) (λi=>LZE P ops R E t (doneL d l) i w) (ZR ops.toList d) a->LZE P ops R E t l a w:=by
 intro d
 induction d with
 |nil=>intro l a _ h;exact h
 |cons k d A=>
  intro l a f h;simp only[Hp,YG]at f;obtain⟨⟨u,g⟩,f⟩:=f;cases hi:ops[k]? with
  |none=>rw[hi]at g;cases g
  |some o=>
   rw[hi]at g;rw[ZR,show ops.toList[k]? =I o by rw[Array.getElem?_toList];exact hi]at h;have z:qOp P ops (λw'=>∃p:GrE E w,w'=p.W) k (wpQuiet P ops (λw'=>∃p:GrE E w,w'=p.W) (λi=>LZE P ops R E t (doneL (k::d) l) i w) (ZR ops.toList d)) a:=by
    unfold qOp;simp only[hi];exact h
   obtain⟨v,C,F⟩:=yieldsIn_of_qOp hi z;exact mW j H hi u (C.imp (λh=>⟨h.1,λW y=>bR g (h.2 W ⟨⟨W,y⟩,rfl⟩)⟩) id) (A _ _ f F)
def Iv(f:Pre E){o:List Oper}(d:List Nat){a:NV}{w:NL}(j:Region.noSelect o.toArray=NC)(g:Hp o.toArray t d l=NC)(h:wpQuiet P o.toArray (λw'=>∃p:GrE E w,w'=p.W) (λi=>LZE P o.toArray R E t (doneL d l) i w) (ZR o d) a):LZE P o.toArray R E t l a w:=
 oR f j d l a g h
def BM(E:NL->NL->Prop)(t:Nat){id:Nat}{a:NV}{w:NL}(d:P.follows .mixedOrders=NC)(h:LZE P ops R E t [] a w.drew):(Code.region id ops NC).wp P R a w:=by
 unfold LZE at h;exact wp_region_any d (wpAny_of_Z _ _ _ _ h)
end
end
section
open Go.Region Go.RowKit
section
def put_comm(a:NV){d e:Nat}(f:d≠e)(v u:NM):(a.put (I d) v).put (I e) u=(a.put (I e) u).put (I d) v:=by
 simp only[Act.put];rw[UP _ _ f]
def LZE.perm(d:mark ops.size l=mark ops.size l')(f:l.length=l'.length)(h:LZE P ops R (ExtX X) t l a w):LZE P ops R (ExtX X) t l' a w:=by
 unfold LZE at*;rw[<-d,<-f];exact h
def dF(k j:Nat){o q:Oper}{a:NV}{w:NL}{E:NL->NL->Prop}(hi:ops[k]? =I o)(u:ops[j]? =I q)(d:(decide (l.length<ops.size)&&Region.ready .any ops (mark ops.size l)==[k,j])=NC)
 (g:Region.wanted o (yielded ops a.tmps)=NC)(A:Region.wanted q (yielded ops a.tmps)=NC)
 (h:o.wp P a w (λf W'=>(k<t->E w W')/\LZE P ops R E t (k::l) f W') FQ)(y:q.wp P a w (λf W'=>(j<t->E w W')/\LZE P ops R E t (j::l) f W') FQ):LZE P ops R E t l a w:=by
 simp only[YG,XE,XU]at d;unfold LZE at*;rw[show ops.size - l.length=(ops.size - (k::l).length)+1 by simp only[YP];omega];refine⟨λz=>(by rw[z]at d;cases d.2),λi hi'=> ?_⟩;rw[d.2]at hi';rcases XG.1 hi' with rfl|hi'
 .unfold wpOp;simp only[hi,g,XY];exact .inl h
 .obtain rfl:i=j:=by simpa using hi'
  unfold wpOp;simp only[u,A,XY];exact .inl y
def AppE(P:NO)(o:Oper)(a:NV)(w:NL)(d e sz n:Nat)(xs:List NM)(f:Option Nat)(b:Nat):Prop:=
 ∀K:NV->NL->Prop,(∀g w',w'.ownsRow d e sz g n xs->w.grownBy w' (I b)->K (a.put f g) w')->o.wp P a w K FQ
def bE(f g k y F C e sz n:Nat){O M V:Oper}{a:NV}{w:NL}(xs:Array NM)(ys:List NM)
 (i1:ops[f]? =I O)(i2:ops[g]? =I M)(ik:ops[k]? =I V)(e1:O.dst=I y)(e2:M.dst=I F)(ek:V.dst=I C)(n1:C≠y)(n2:C≠F)
 (hb:(decide (l.length+2<ops.size)&&Region.ready .any ops (Nk.mark ops.size l)==[f,k]&&Region.ready .any ops (Nk.mark ops.size (f::l))==[g,k]&&Region.ready .any ops (Nk.mark ops.size (k::l))==[f]
   &&Region.ready .any ops (Nk.mark ops.size (k::f::l))==[g]&&Region.ready .any ops (Nk.mark ops.size (g::f::l))==[k]&&Region.ready .any ops (Nk.mark ops.size (f::k::l))==[g]
   &&Nk.mark ops.size (g::k::f::l)==Nk.mark ops.size (k::g::f::l)&&Nk.mark ops.size (g::f::k::l)==Nk.mark ops.size (k::g::f::l))=NC)
 (w1:∀a:NV,Region.wanted O (yielded ops a.tmps)=NC)(w2:∀a:NV,Region.wanted M (yielded ops a.tmps)=NC)(wk:∀a:NV,Region.wanted V (yielded ops a.tmps)=NC)
 (r1:∀(a:NV) W,(NU a.eval O).run P W= .ok (.value (U (I W.heap.size) 0 0)) (W.alloc (J #[] e)))
 (rk:∀(u:NV) W,(u=a\/(∃v,u=a.put (I y) v)\/∃v H,u=(a.put (I y) v).put (I F) H)->(NU u.eval V).run P W= .ok (.value (U (I W.heap.size) 1 1)) (W.alloc (J xs e)))
 (ra:∀(u:NV)(b:Nat) W,(u=a.put (I y) (U (I b) 0 0)\/(∃H,u=(a.put (I y) (U (I b) 0 0)).put (I C) H)\/∃H,u=(a.put (I C) H).put (I y) (U (I b) 0 0))->
   Ext w W->w.heap.size<=b->W.heap[b]? =I (J #[] e)->AppE P M u W w.heap.size e sz n ys (I F) b)
 (hX:∀q,w.heap.size<=q->X q)
 (h:∀W v1 z bn,Ext w W->W.ownsRow w.heap.size e sz z n ys->W.heap[bn]? =I (J xs e)->LZE P ops R (ExtX X) t (k::g::f::l) (((a.put (I y) v1).put (I F) z).put (I C) (U (I ⟨bn,0,Z⟩) 1 1)) W):
 LZE P ops R (ExtX X) t l a w:=by
 simp only[YG,XE,XU]at hb;obtain⟨⟨⟨⟨⟨⟨⟨⟨_,c2⟩,c3⟩,c4⟩,c5⟩,c6⟩,c7⟩,m1⟩,m2⟩:=hb;have g0:=(Z3 w (J #[] e) w.heap.size).trans (YZ rfl);have gk:=(Z3 w (J xs e) w.heap.size).trans (YZ rfl);have Y:=(Ext.rfl' w).alloc (J #[] e);have Nz:=(Ext.rfl' w).alloc (J xs e);have s1:=Z2 w (J #[] e);have sk:=Z2 w (J xs e);refine dF f k i1 ik (by simp only[YG,XE,XU];exact⟨OA,c2⟩) (w1 a) (wk a) ?_ ?_
 .refine Ye ⟨_,_,r1 a w,λ_=>Ext.toX Y X,?_⟩;rw[e1];refine dF g k i2 ik (by simp only[YG,XE,XU];exact⟨by simp only[YP];omega,c3⟩) (w2 _) (wk _) ?_ ?_
  .refine ra _ _ _ (.inl rfl) Y (XA _) g0 _ λz T d j=>⟨λ_=>Oy j (λq i=>by cases i;exact hX _ (XA _)),?_⟩
   have e3:=Y.grown j (λq i=>by cases i;exact XA _);refine PV k ik (by simp only[YG,XE,XU];exact⟨by simp only[YP];omega,c6⟩) (wk _) ?_;refine Ye ⟨_,_,rk _ _ (.inr (.inr ⟨_,_,rfl⟩)),λ_=>Ext.toX ((Ext.rfl' _).alloc _) X,?_⟩;rw[ek];exact h _ _ _ _ (e3.alloc _) (ZT d ((Ext.rfl' _).alloc _)) ((Z3 _ _ _).trans (YZ rfl))
  .refine Ye ⟨_,_,rk _ _ (.inr (.inl ⟨_,rfl⟩)),λ_=>Ext.toX ((Ext.rfl' _).alloc _) X,?_⟩;rw[ek];refine PV g i2 (by simp only[YG,XE,XU];exact⟨by simp only[YP];omega,c5⟩) (w2 _) ?_;have K:=(Z3 (w.alloc (J #[] e)) (J xs e) (w.alloc (J #[] e)).heap.size).trans (YZ rfl);have L:=Y.alloc (J xs e);have A:=((Ext.rfl' (w.alloc (J #[] e))).alloc (J xs e)).get g0;refine ra _ _ _ (.inr (.inl ⟨_,rfl⟩)) L (XA _) A _ λz T d j=>⟨λ_=>Oy j (λq i=>by cases i;exact hX _ (XA _)),?_⟩
   have e3:=L.grown j (λq i=>by cases i;exact XA _);have Ab:(w.alloc (J #[] e)).heap.size≠w.heap.size:=OA
   have gC:=(j.block _ (Z5 K) (by intro h;have h:=YT h;omega)).trans K;have:=h T (U (I w.heap.size) 0 0) z _ e3 d gC;rw[put_comm _ n2.symm]at this;exact this.perm m1.symm rfl
 .refine Ye ⟨_,_,rk _ _ (.inl rfl),λ_=>Ext.toX Nz X,?_⟩;rw[ek];refine PV f i1 (by simp only[YG,XE,XU];exact⟨by simp only[YP];omega,c4⟩) (w1 _) ?_;refine Ye ⟨_,_,r1 _ _,λ_=>Ext.toX ((Ext.rfl' _).alloc _) X,?_⟩;rw[e1];refine PV g i2 (by simp only[YG,XE,XU];exact⟨by simp only[YP];omega,c7⟩) (w2 _) ?_;have A:=(Z3 (w.alloc (J xs e)) (J #[] e) (w.alloc (J xs e)).heap.size).trans (YZ rfl);have L:=Nz.alloc (J #[] e);have K:=((Ext.rfl' (w.alloc (J xs e))).alloc (J #[] e)).get gk;refine ra _ _ _ (.inr (.inr ⟨_,rfl⟩)) L OA A _ λz T d j=>⟨λ_=>Oy j (λq i=>by cases i;exact hX _ OA),?_⟩
  have e3:=L.grown j (λq i=>by cases i;omega);have gC:=(j.block _ (Z5 K) (by intro h;have h:=YT h;omega)).trans K;have:=h T (U (I ⟨(w.alloc (J xs e)).heap.size,0,Z⟩) 0 0) z _ e3 d gC;rw[put_comm _ n2.symm,put_comm a n1.symm]at this;exact this.perm m2.symm rfl
end
end
end Go.Nk
namespace Go.Proofs.Tryp
open Go.Nk Go.RowKit Go.Shelf Go.Proofs
attribute [local instance] k3
inductive Ln
 |rule (a b c m:Int)
 |sight (a b c m:Int)
 |shaft (x:Sf)
 |shot (s:Rs)
def U7(x p q r t:List UInt8):Option Ln:=
 if x=[114,117,108,101]then match numsO [p,q,r,t]with
  |some [a,b,c,m]=>I (.rule a b c m)
  |_=>Z
 else if x=[115,105,103,104,116]then match numsO [p,q,r,t]with
  |some [a,b,c,m]=>I (.sight a b c m)
  |_=>Z
 else if x=[115,104,97,102,116]then match Y3 q,Y3 r,Y3 t with
  |some a,I b,I c=>I (.shaft ⟨⟨p.toArray⟩,a.1,a.2,b.1,b.2,c.1,c.2⟩)
  |_,_,_=>Z
 else if x=[115,104,111,116]then match numO p,Y3 q,numsO [r,t]with
  |some a,I m,I [wi,li]=>I (.shot ⟨a,m.1,m.2,wi,li⟩)
  |_,_,_=>Z
 else Z
def lineP:List (List UInt8)->Option Ln
 |[x,p,q,r,t]=>if[]∈[x,p,q,r,t]then Z else U7 x p q r t
 |_=>Z
def WN(s:List UInt8):Option Ln:=lineP (Y4 32 s)
structure St where
 a:Int
 b:Int
 c:Int
 m:Int
 L:List Sf
def stepL(first:Bool)(d:St):Option Ln->Option St
 |some (.rule a b c m)=>if first=NC then I ⟨a,b,c,m,d.L⟩else Z
 |some (.shaft x)=>if first=NC then Z else I {d with L:=d.L++[x]}
 |_=>Z
def Wu(first:Bool)(d:St)(s:List UInt8):Option St:=stepL first d (WN s)
def Ln.word:Ln->List UInt8
 | .rule .. =>[114,117,108,101]
 | .sight .. =>[115,105,103,104,116]
 | .shaft _=>[115,104,97,102,116]
 | .shot _=>[115,104,111,116]
def cg{t:List UInt8}{l:Ln}(h:U7 x p q r t=I l):x=l.word:=by
 unfold U7 at h
 repeat' split at h
 all_goals
  first|cases h;assumption|cases h
def FG{L:List Sf}(h:Xy b w v L):∃ao cp,v= U ao L.length cp/\L.length<=cp:=by
 rcases h.2 with⟨rfl,d⟩|⟨g,_,_,rfl,_,_,d,_⟩
 .exact⟨Z,0,by rw[d],OA⟩
 .exact⟨_,_,rfl,d⟩
def Qn{c:UInt8}:∀{l y:List UInt8},y∈Y4 c l->y.length<=l.length
 |[],y,h=>by simp[Y4]at h;subst h;simp
 |b::l,y,h=>by
  rw[Y4]at h;split at h
  .rcases XG.1 h with rfl|h
   .simp
   .exact Nat.le_succ_of_le (Qn h)
  .split at h
   .simp at h;subst h;simp
   .rename_i e;rcases XG.1 h with rfl|h
    .have:=Qn (l:=l) (y:=_) (by rw[e];exact YY);simpa using this
    .exact Nat.le_succ_of_le (Qn (by rw[e];exact YW _ h))
def numsO_len:∀{T:List (List UInt8)}{l:List Int},numsO T=I l->l.length=T.length
 |[],l,h=>by cases h;rfl
 |y::P,l,h=>by
  rw[numsO]at h;split at h
  .rename_i m r h1 h2;cases h;rw[YP,YP,numsO_len h2]
  .cases h
def cN(s x:Operand)(A g e d h:Nat)(i:TypeInfo)(z:NM)(M:o.op= .call {callee:= .builtin .append,args:= #[s,x],argTypes:= #[A,A]})
 (H:P.underlying A=I (.slice e))(hi:P.info? e=I i)(hz:i.zero=I z)(Y:i.size=d)(Ef:i.bytes=h)(Ny:z.cells.size=d)(Ba:0<d)(b:Nat)(hB:w.heap[b]? =I (J #[] e))(hb:g<=b)(T:a.eval s= U (I b) 0 0)
 (y:Option NP)(m c:Nat)(f:List NM)(V:a.eval x= U y m c)(hl:f.length=m*d)(h0:y=Z->m=0)(F:∀C,y=I C->∀j u,f[j]? =I u->w.cell? (C.add j)=I u)(h1:∀u∈f,u.oneCell'=NC)
 (Fx:m<=maxLen)(Eh:m*h<=140737488355328)(A7:g<=w.heap.size):AppE P o a w g e d m f o.dst b:=by
 intro K L;have own:w.ownsRow g e d (U (I b) 0 0) 0 []:=⟨OD,.inr ⟨b,0,#[],rfl,hb,hB,XA _,XL _,OD,OD⟩⟩;cases y with
 |none=>
  obtain rfl:=h0 rfl;obtain rfl:f=[]:=SL.1 OA;unfold Oper.wp NU;simp only[M,resolve,invoke,builtin,UH,Sem.run_pure,RZ,TD,VG,VX,T,V];have hr:(Builtin.append_ #[A,A] o.type #[U (I b) 0 0,U Z 0 c]).run P w= .ok (U (I b) 0 0) w:=by
   unfold Builtin.append_;simp[go_sem,underlying,H,sizeOf,typeInfo,hi,Y]
  rw[hr];exact L _ _ own ⟨rfl,rfl,rfl,XA _,λ_ _ _=>rfl⟩
 |some C=>
  refine wp_append_own w s x A M g e i z d h H hi hz Y Ef Ny Ba _ 0 [] T own C m c f V hl (F C rfl) h1 OA (by rw[VD];exact Eh) A7 ?_;intro v' w' O h4 _;rw[VD,YJ]at O;exact L v' w' O h4
def Gp(b0:Nat)(o:Option St)(e:Ending)(w':NL):Prop:=∃(a b c m:Int)(ao:Option NP)(n cp:Nat),e= .returned (.tuple #[NJ #[a,b,c,m,U ao n cp],.bool o.isSome])/\∀d,o=I d->a=d.a/\b=d.b/\c=d.c/\m=d.m/\Xy b0 w' (U ao n cp) d.L
abbrev U8(W:NL)(k:Nat)(a b c d e:NM):NL:=((((W.setCell k a).setCell ⟨k,1,Z⟩ b).setCell ⟨k,2,Z⟩ c).setCell ⟨k,3,Z⟩ d).setCell ⟨k,4,Z⟩ e
def Yz(a b c d e:NM)(h:W.heap[k]? =I (J #[x0,x1,x2,x3,x4] t)):(U8 W k a b c d e).heap[k]? =I (J #[a,b,c,d,e] t):=
 Zb (Zb (Zb (Zb (Zb h (i:=0) a) (i:=1) b) (i:=2) c) (i:=3) d) (i:=4) e
def Y2(a b c d e:NM)(h:Ext w W)(f:w.heap.size<=k):Ext w (U8 W k a b c d e):=
 ((((h.setCell _ _ f).setCell _ _ f).setCell _ _ f).setCell _ _ f).setCell _ _ f
def N1{g:Nat}(a b c d f:NM)(h:W.ownsRow g e sz v n xs)(i:k<g):(U8 W k a b c d f).ownsRow g e sz v n xs:=
 XK (XK (XK (XK (XK h (a:=⟨k,0,Z⟩) i a) (a:=⟨k,1,Z⟩) i b) (a:=⟨k,2,Z⟩) i c) (a:=⟨k,3,Z⟩) i d) (a:=⟨k,4,Z⟩) i f
def cq(w:NL)(b:Nat):w.drew.heap[b]? =w.heap[b]? :=rfl
def FU{o:Option St}{a b:Int}(g:act.tmps.getD 6 NQ= NI (I k))(j:act.tmps.getD 7 NQ= .bool o.isSome)(z:act.defers=[])
 (A:Ext w W)(f:W.heap[k]? =I (J #[a,b,c,m,U ao n cp] 26))(C:∀d,o=I d->a=d.a/\b=d.b/\c=d.c/\m=d.m/\Xy b0 W (U ao n cp) d.L):
 bodyPost NY Tryz.f49 (λe w'=>Gp b0 o e w'/\Ext w w') Exit.ret act W:=by
 refine VE (v:= .tuple #[NJ #[a,b,c,m,U ao n cp],.bool o.isSome]) ?_ z ⟨⟨a,b,c,m,ao,n,cp,rfl,C⟩,A⟩;have u:=Z0 f 0;have y:=Z0 f 1;have i:=Z0 f 2;have d:=Z0 f 3;have h:=Z0 f 4;simp only[YC,YA,YB]at u y i d h;show(results Tryz.f49 _).run NY _=_;have F:Tryz.f49.results= #[.cell 6 26,.tmp 7]:=OB
 unfold results;rw[F];simp only[Array.getD_eq_getD_getElem?]at g j;simp[go_sem,g,j,u,y,i,d,h]
def Iq{a b:Int}(g:act.tmps.getD 6 NQ= NI (I k))(j:act.tmps.getD 7 NQ= .bool ND)(d:act.defers=[])(i:w.heap.size<=k)
 (f:Ext w W)(u:W.heap[k]? =I (J #[x0,x1,x2,x3,x4] 26)):
 bodyPost NY Tryz.f49 (λe w'=>Gp b0 Z e w'/\Ext w w') Exit.ret act (U8 W k (NE NF a) (NE NF b) (NE NF c) (NE NF m) (U ao n cp)):=
 FU g j d (Y2 _ _ _ _ _ f i) (Yz _ _ _ _ _ u) λ_ h=>by cases h
def kp(f:St)(v:NM)(s:List UInt8)(first:Bool)(b0:Nat)(w:NL)(hs:s.length<=100000)(hb:b0<=w.heap.size)(hL:f.L.length<=2000)(hv:Xy b0 w v f.L):
 NW NY 49 #[NJ #[f.a,f.b,f.c,f.m,v],str s,.bool first] w λe w'=>Gp b0 (Wu first f s) e w'/\Ext w w':=by
 obtain⟨ao,vc,Mz,We⟩:=FG hv;obtain⟨n,hn⟩:∃n,f.L.length=n:=⟨_,rfl⟩;rw[hn]at Mz We;subst Mz;replace hv:Hid _:=hv;replace hn:Hid _:=hn;have hf:=λw=>BY s w hs
 obtain⟨C,hC⟩:∃C,Hid (Y4 32 s=C):=⟨_,rfl⟩;rw[hC.out]at hf;obtain⟨o,ho⟩:∃o,Hid (Wu first f s=o):=⟨_,rfl⟩;rw[ho.out];have D1:=ho.out;rw[Wu,WN,hC.out]at D1;have A1:Hid (∀y∈C,y.length<=100000):=λy hy=>XC (Qn (by rw[hC.out];exact hy)) hs
 clear ho hC;have Af:Ext w ((w.alloc (J #[f.a,f.b,f.c,f.m,U ao n vc] 26)).alloc (J OG 26)):=((Ext.rfl' w).alloc _).alloc _;have g1:((w.alloc (J #[f.a,f.b,f.c,f.m,U ao n vc] 26)).alloc (J OG 26)).heap[w.heap.size]? =I (J #[f.a,f.b,f.c,f.m,U ao n vc] 26):=by
  simp only[Z3,Z2];rw[XB OA,YZ trivial]
 have g2:((w.alloc (J #[f.a,f.b,f.c,f.m,U ao n vc] 26)).alloc (J OG 26)).heap[w.heap.size+1]? =I (J OG 26):=by
  simp only[Z3,Z2];rw[YZ trivial]
 replace D1:Hid _:=D1;by_cases hm:[]∈C\/C.length≠5
 .obtain rfl:o=Z:=by
   rw[<-D1.out];have:lineP C=Z:=by
    unfold lineP;split
    .rw[YZ (hm.resolve_right OD)]
    .rfl
   rw[this];rfl
  clear D1;go_enter fq Tryz.func49,Tryz.ntmps49;go_wp2_with fail;generalize (w.alloc (J #[f.a,f.b,f.c,f.m,U ao n vc] 26)).alloc (J OG 26)=w1 at*
  go_wp2_with (first
   |(go_at_call 93;refine(hf _).mono ?_;rintro e w2 ⟨hW,H⟩
     have z:=H.get g1;have d:=H.get g2;have q0:=Z0 z 0;have q1:=Z0 z 1;have q2:=Z0 z 2;have q3:=Z0 z 3;have q4:=Z0 z 4;have p0:=Z0 d 0;have p1:=Z0 d 1;have p2:=Z0 d 2;have Y:=Z0 d 3;have p4:=Z0 d 4;have z0:=Z8 d 0;have z1:=Z8 d 1;have z2:=Z8 d 2;have z3:=Z8 d 3;have z4:=Z8 d 4;simp only[YC,YA,YB]at q0 q1 q2 q3 q4 p0 p1 p2 Y p4;replace z:Hid _:=z;replace d:Hid _:=d;rcases hW with⟨F,_,_,rfl⟩|⟨F,x',T,b,g,cp,rfl,rfl,hT⟩
     case' inr=>
      have Ab:¬T.length=4:=λh=>hm.resolve_left F (by rw[YP,h])
      clear hm F hT))
  all_goals exact Iq rfl rfl rfl OA (Af.trans H) d.out
 .obtain⟨x,p,q,r,t,rfl⟩:∃x p q r t,C=[x,p,q,r,t]:=by
   rcases C with _|⟨x,_|⟨p,_|⟨q,_|⟨r,_|⟨t,_|_⟩⟩⟩⟩⟩<;>simp_all
  have Hf:=λh=>hm (.inl h)
  have V:=D1.out;rw[lineP,XB Hf]at V;clear D1 hm;have A:(first=NC/\x≠[114,117,108,101])\/(first=ND/\x=[114,117,108,101])\/(first=ND/\x≠[115,104,97,102,116])->stepL first f (U7 x p q r t)=Z:=by
   intro h;cases hw:U7 x p q r t with
   |none=>rfl
   |some l=>
    have hk:=cg hw;cases l<;>first|rfl|(rcases h with⟨rfl,h⟩|⟨rfl,h⟩|⟨rfl,h⟩<;>first|rfl|exact absurd hk h|(rw[h]at hk;cases hk))
  replace V:Hid _:=V;by_cases B4:(first=NC/\x≠[114,117,108,101])\/(first=ND/\x=[114,117,108,101])\/(first=ND/\x≠[115,104,97,102,116])
  .obtain rfl:o=Z:=V.out.symm.trans (A B4);clear V A;rcases B4 with⟨rfl,hx⟩|⟨rfl,hx⟩|⟨rfl,hx⟩
   case' inl=>have a6:(x==[114,117,108,101])=ND:=XQ.2 hx
   case' inr.inl=>subst hx
   case' inr.inr=>
    have a6:(x==[115,104,97,102,116])=ND:=XQ.2 hx;have R4:(x==[114,117,108,101])=NC\/(x==[114,117,108,101])=ND:=(by cases (x==[114,117,108,101])<;>simp);rcases R4 with R4|R4
   all_goals
    go_enter fq Tryz.func49,Tryz.ntmps49;go_wp2_with fail;generalize (w.alloc (J #[f.a,f.b,f.c,f.m,U ao n vc] 26)).alloc (J OG 26)=w1 at*
    go_wp2_with (first
     |(go_at_call 93;refine(hf _).mono ?_;rintro e w2 ⟨hW,H⟩
       rcases hW with⟨F,_⟩|⟨F,x',T,b,g,cp,hc,rfl,hT⟩
       .exact absurd F Hf
       cases hc;obtain⟨rfl,O,Hh,El⟩:=hT OD;have z:=H.get g1;have d:=H.get g2;have q0:=Z0 z 0;have q1:=Z0 z 1;have q2:=Z0 z 2;have q3:=Z0 z 3;have q4:=Z0 z 4;have p0:=Z0 d 0;have p1:=Z0 d 1;have p2:=Z0 d 2;have Y:=Z0 d 3;have p4:=Z0 d 4;have z0:=Z8 d 0;have z1:=Z8 d 1;have z2:=Z8 d 2;have z3:=Z8 d 3;have z4:=Z8 d 4;simp only[YC,YA,YB]at q0 q1 q2 q3 q4 p0 p1 p2 Y p4;replace O:Hid _:=O;replace z:Hid _:=z;replace d:Hid _:=d))
    exact Iq rfl rfl rfl OA (Af.trans H) d.out
  .have M1:(first=NC/\x=[114,117,108,101])\/(first=ND/\x=[115,104,97,102,116]):=by
    cases first
    .exact .inr ⟨rfl,RX.1 λh=>B4 (.inr (.inr ⟨rfl,h⟩))⟩
    .exact .inl ⟨rfl,RX.1 λh=>B4 (.inl ⟨rfl,h⟩)⟩
   clear B4 A;have ln:∀y∈[p,q,r,t],y.length<=100000:=λy hy=>A1.out y (YW _ hy)
   rcases M1 with⟨rfl,rfl⟩|⟨rfl,rfl⟩
   .replace V:stepL NC f (match numsO [p,q,r,t]with
     |some [a,b,c,m]=>I (.rule a b c m)
     |_=>Z)=o:=V.out
    cases hN:numsO [p,q,r,t]with
    |none=>
     rw[hN]at V;obtain rfl:Z=o:=V;replace hN:Hid _:=hN;go_enter fq Tryz.func49,Tryz.ntmps49;go_wp2_with fail;generalize (w.alloc (J #[f.a,f.b,f.c,f.m,U ao n vc] 26)).alloc (J OG 26)=w1 at*
     go_wp2_with (first
      |(go_at_call 93;refine(hf _).mono ?_;rintro e w2 ⟨hW,H⟩
        rcases hW with⟨F,_⟩|⟨F,x',T,b,g,cp,hc,rfl,hT⟩
        .exact absurd F Hf
        cases hc;obtain⟨rfl,O,Hh,El⟩:=hT OD;have z:=H.get g1;have d:=H.get g2;have q0:=Z0 z 0;have q1:=Z0 z 1;have q2:=Z0 z 2;have q3:=Z0 z 3;have q4:=Z0 z 4;have p0:=Z0 d 0;have p1:=Z0 d 1;have p2:=Z0 d 2;have Y:=Z0 d 3;have p4:=Z0 d 4;have z0:=Z8 d 0;have z1:=Z8 d 1;have z2:=Z8 d 2;have z3:=Z8 d 3;have z4:=Z8 d 4;simp only[YC,YA,YB]at q0 q1 q2 q3 q4 p0 p1 p2 Y p4;replace O:Hid _:=O;replace z:Hid _:=z;replace d:Hid _:=d)
      |(go_at_call 94;refine(K5 g 1 4 cp [p,q,r,t] _ rfl OA O.out Hh ln).mono ?_;rintro e w3 ⟨v3,rfl,Ic,M⟩
        rw[hN.out];replace q0:=M.cellS q0;replace q1:=M.cellS q1;replace q2:=M.cellS q2;replace q3:=M.cellS q3;replace q4:=M.cellS q4;replace d:=M.get d.out;replace p0:=Z0 d 0;replace p1:=Z0 d 1;replace p2:=Z0 d 2;replace Y:=Z0 d 3;replace p4:=Z0 d 4;replace z0:=Z8 d 0;replace z1:=Z8 d 1;replace z2:=Z8 d 2;replace z3:=Z8 d 3;replace z4:=Z8 d 4;simp only[YC,YA,YB]at p0 p1 p2 Y p4;replace d:Hid _:=d))
     exact Iq rfl rfl rfl OA ((Af.trans H).trans M) d.out
    |some l=>
     obtain⟨a,b,c,m,rfl⟩:∃a b c m,l=[a,b,c,m]:=by
      have:=numsO_len hN;rcases l with _|⟨a,_|⟨b,_|⟨c,_|⟨m,_|_⟩⟩⟩⟩<;>simp_all
     rw[hN]at V;obtain rfl:I (⟨a,b,c,m,f.L⟩:St)=o:=V;replace hN:Hid _:=hN;go_enter fq Tryz.func49,Tryz.ntmps49;go_wp2_with fail;generalize (w.alloc (J #[f.a,f.b,f.c,f.m,U ao n vc] 26)).alloc (J OG 26)=w1 at*
     go_wp2_with (first
      |(go_at_call 93;refine(hf _).mono ?_;rintro e w2 ⟨hW,H⟩
        rcases hW with⟨F,_⟩|⟨F,x',T,bb,g,cp,hc,rfl,hT⟩
        .exact absurd F Hf
        cases hc;obtain⟨rfl,O,Hh,El⟩:=hT OD;have z:=H.get g1;have d:=H.get g2;have q0:=Z0 z 0;have q1:=Z0 z 1;have q2:=Z0 z 2;have q3:=Z0 z 3;have q4:=Z0 z 4;have p0:=Z0 d 0;have p1:=Z0 d 1;have p2:=Z0 d 2;have Y:=Z0 d 3;have p4:=Z0 d 4;have z0:=Z8 d 0;have z1:=Z8 d 1;have z2:=Z8 d 2;have z3:=Z8 d 3;have z4:=Z8 d 4;simp only[YC,YA,YB]at q0 q1 q2 q3 q4 p0 p1 p2 Y p4;replace O:Hid _:=O;replace z:Hid _:=z;replace d:Hid _:=d)
      |(go_at_call 94;refine(K5 g 1 4 cp [p,q,r,t] _ rfl OA O.out Hh ln).mono ?_;rintro e w3 ⟨v3,rfl,Ic,M⟩
        rw[hN.out];replace z:=M.get z.out;have Ei:=Ic.out [a,b,c,m] hN.out;obtain⟨g',a8,rfl,Jo,Ij⟩:=XT Ei OD;have c0:=WL Ei 0 a rfl;have c1:=WL Ei 1 b rfl;have c2:=WL Ei 2 c rfl;have c3:=WL Ei 3 m rfl;have y0:=Z8 z 0;have y1:=Z8 z 1;have y2:=Z8 z 2;have y3:=Z8 z 3;replace q0:=M.cellS q0;replace q1:=M.cellS q1;replace q2:=M.cellS q2;replace q3:=M.cellS q3;replace q4:=M.cellS q4;replace d:=M.get d.out;replace p0:=Z0 d 0;replace p1:=Z0 d 1;replace p2:=Z0 d 2;replace Y:=Z0 d 3;replace p4:=Z0 d 4;replace z0:=Z8 d 0;replace z1:=Z8 d 1;replace z2:=Z8 d 2;replace z3:=Z8 d 3;replace z4:=Z8 d 4;simp only[YC,YA,YB]at p0 p1 p2 Y p4;replace d:Hid _:=d;replace z:Hid _:=z;clear Ic Ei))
     rename_i K hK
     go_region
     all_goals
      refine hK _ _ ?_;go_wp2
     have Ag:=((Af.trans H).trans M);have As:=(((Ag.setCell (a:=⟨w.heap.size,0,Z⟩) (NE NF a) (XA _)).setCell (a:=⟨w.heap.size,1,Z⟩) (NE NF b) (XA _)).setCell (a:=⟨w.heap.size,2,Z⟩) (NE NF c) (XA _)).setCell (a:=⟨w.heap.size,3,Z⟩) (NE NF m) (XA _);have B0:=(Y2 (k:=w.heap.size+1) (NE NF a) (NE NF b) (NE NF c) (NE NF m) (U ao n vc) As OA).drew;have g5:((((w3.setCell w.heap.size (NE NF a)).setCell ⟨w.heap.size,1,Z⟩ (NE NF b)).setCell ⟨w.heap.size,2,Z⟩ (NE NF c)).setCell ⟨w.heap.size,3,Z⟩ (NE NF m)).heap[w.heap.size+1]? =I (J OG 26):=by
      rw[set_ne OD,set_ne OD,set_ne OD,set_ne OD];exact d.out
     have g6:=Yz (NE NF a) (NE NF b) (NE NF c) (NE NF m) (U ao n vc) g5;rw[<-cq]at g6;refine FU rfl rfl rfl B0 g6 λa5 h=> ?_
     .cases h;exact⟨rfl,rfl,rfl,rfl,ZT hv.out B0⟩
   .replace V:stepL ND f (match Y3 q,Y3 r,Y3 t with
     |some a,I b,I c=>I (.shaft ⟨⟨p.toArray⟩,a.1,a.2,b.1,b.2,c.1,c.2⟩)
     |_,_,_=>Z)=o:=V.out
    replace V:Hid _:=V;have Bo:=λw=>HG q w (ln _ OD)
    have C6:=λw=>HG r w (ln _ OD)
    have D9:=λw=>HG t w (ln _ OD)
    clear ln A1;obtain⟨b1,Be⟩:∃b1,Hid ((Y3 q).isSome=b1):=⟨_,rfl⟩;obtain⟨b2,Aw⟩:∃b2,Hid ((Y3 r).isSome=b2):=⟨_,rfl⟩;obtain⟨b3,C1⟩:∃b3,Hid ((Y3 t).isSome=b3):=⟨_,rfl⟩;rw[Be.out]at Bo;rw[Aw.out]at C6;rw[C1.out]at D9;go_enter fq Tryz.func49,Tryz.ntmps49;go_wp2_with fail;generalize (w.alloc (J #[f.a,f.b,f.c,f.m,U ao n vc] 26)).alloc (J OG 26)=w1 at*
    go_wp2_with (first
     |(go_at_call 93;refine(hf _).mono ?_;rintro e w2 ⟨hW,H⟩
       rcases hW with⟨F,_⟩|⟨F,x',T,bb,g,cp,hc,rfl,hT⟩
       .exact absurd F Hf
       cases hc;obtain⟨rfl,O,Hh,El⟩:=hT OD;have z:=H.get g1;have d:=H.get g2;have q0:=Z0 z 0;have q1:=Z0 z 1;have q2:=Z0 z 2;have q3:=Z0 z 3;have q4:=Z0 z 4;have p0:=Z0 d 0;have p1:=Z0 d 1;have p2:=Z0 d 2;have Y:=Z0 d 3;have p4:=Z0 d 4;have z0:=Z8 d 0;have z1:=Z8 d 1;have z2:=Z8 d 2;have z3:=Z8 d 3;have z4:=Z8 d 4;simp only[YC,YA,YB]at q0 q1 q2 q3 q4 p0 p1 p2 Y p4;replace O:Hid _:=O;replace z:Hid _:=z;replace d:Hid _:=d;have c0:w2.cell? ⟨g,1,Z⟩=I (str p):=O.out 0 p rfl;have c1:w2.cell? ⟨g,2,Z⟩=I (str q):=O.out 1 q rfl;have c2:w2.cell? ⟨g,3,Z⟩=I (str r):=O.out 2 r rfl;have c3:w2.cell? ⟨g,4,Z⟩=I (str t):=O.out 3 t rfl)
     |(go_at_call 95;(with_reducible refine(Bo _).mono ?_);rintro e w3 ⟨a0,a1,rfl,hA,M⟩
       have Rl:=M.alloc (J #[a0,a1] 49);have d2:=Rl.cellS c2)
     |(go_at_call 95;(with_reducible refine(C6 _).mono ?_);rintro e w4 ⟨l0,l1,rfl,hB,Ag⟩
       have E9:=(Rl.trans Ag).alloc (J #[l0,l1] 49);have d3:=E9.cellS c3)
     |(go_at_call 95;(with_reducible refine(D9 _).mono ?_);rintro e w5 ⟨e0,e1,rfl,hC,As⟩))
    have Ej:=(E9.trans As).alloc (J #[e0,e1] 49)
    have m3:(w5.alloc (J #[e0,e1] 49)).heap[w3.heap.size]? =I (J #[a0,a1] 49):=
     ((((Ext.rfl' _).trans Ag).alloc _).trans (As.alloc _)).get (by rw[Z3,YZ rfl])
    have m4:(w5.alloc (J #[e0,e1] 49)).heap[w4.heap.size]? =I (J #[l0,l1] 49):=
     (As.alloc _).get (by rw[Z3,YZ rfl])
    have m5:(w5.alloc (J #[e0,e1] 49)).heap[w5.heap.size]? =I (J #[e0,e1] 49):=(by rw[Z3,YZ rfl]);replace c0:=Ej.cellS c0;replace z:=Ej.get z.out;replace d:=Ej.get d.out;have Ip:=ZT hv.out ((Af.trans H).trans Ej);have a7:=M.size;have a9:=Ag.size;have Sv:=As.size;have Og:=(Af.trans H).size;clear q0 q1 q2 q3 q4 p0 p1 p2 Y p4 z0 z1 z2 z3 z4 d2 d3 c1 c2 c3 Bo C6 D9;generalize w5.alloc (J #[e0,e1] 49)=w6 at*;have n0:=Z0 m3 0;have n1:=Z0 m3 1;have n2:=Z0 m4 0;have n3:=Z0 m4 1;have n4:=Z0 m5 0;have n5:=Z0 m5 1;have q4:=Z0 z 4;have y4:=Z8 z 4;simp only[YC,YA,YB]at n0 n1 n2 n3 n4 n5 q4;have i0:=Z5 z;have i1:=Z5 m3;have i2:=Z5 m4;have i3:=Z5 m5;have i4:g<w6.heap.size:=YS Hh Ej.size;have i0:=Z5 z;have i1:=Z5 m3;have i2:=Z5 m4;have i3:=Z5 m5;have i4:g<w6.heap.size:=YS Hh Ej.size;rename_i K hK;clear hK;have hD:=(Ext.rfl' w6).drew;refine BM (ExtX λq=>w6.heap.size<=q) 14 OB ?_;replace z:=hD.get z;replace d:=hD.get d;replace Ip:=ZT Ip hD;replace n0:=hD.cellS n0;replace n1:=hD.cellS n1;replace n2:=hD.cellS n2;replace n3:=hD.cellS n3;replace n4:=hD.cellS n4;replace n5:=hD.cellS n5;replace q4:=hD.cellS q4;replace c0:=hD.cellS c0
    rw[show w6.heap.size=w6.drew.heap.size from rfl]at i0 i1 i2 i3 i4⊢;generalize w6.drew=w7 at z d Ip n0 n1 n2 n3 n4 n5 q4 c0 i0 i1 i2 i3 i4 hD⊢;have nX:∀k,k<w7.heap.size->¬(λq=>w7.heap.size<=q) k:=λk h h2=>absurd (show w7.heap.size<=k from h2) OA
    have gq:=GrE.cell (X:=λq=>w7.heap.size<=q) (nX _ i0) q4;have gc:=GrE.cell (X:=λq=>w7.heap.size<=q) (nX _ i4) c0;have f0:=GrE.cell (X:=λq=>w7.heap.size<=q) (nX _ i1) n0;have f1:=GrE.cell (X:=λq=>w7.heap.size<=q) (nX _ i1) n1;have f2:=GrE.cell (X:=λq=>w7.heap.size<=q) (nX _ i2) n2;have f3:=GrE.cell (X:=λq=>w7.heap.size<=q) (nX _ i2) n3;have f4:=GrE.cell (X:=λq=>w7.heap.size<=q) (nX _ i3) n4;have f5:=GrE.cell (X:=λq=>w7.heap.size<=q) (nX _ i3) n5;refine Iv (ExtX.pre _) [1,2,4,5,6,7,8,9,10] OB OB ?_;simp only[ZR,YB,YA,YK,YJ]
    repeat (go_big_quiet_step (fail))
    refine XI ?_;clear gq gc f0 f1 f2 f3 f4 f5;have G2:=hn.out;have J3:(f.L.flatMap sfC).length=n*7:=by have:=Ip.1;rwa [G2]at this
    have Lf:ao=Z->n=0:=λh=>by
     rcases Ip.2 with⟨_,F⟩|⟨_,_,_,F,_⟩
     .exact G2.symm.trans F
     .rw[h]at F;cases F
    have O3:∀W,Ext w7 W->∀ad,ao=I ad->∀(j:Nat) u,(f.L.flatMap sfC)[j]? =I u->W.cell? (ad.add j)=I u:=λW hW ad h j u hj=>by
     subst h;rcases Ip.2 with⟨F,_⟩|⟨g9,_,_,F,_⟩
     .cases F
     .cases F;exact hW.cellS (Ip.cells rfl j u hj)
    have Bo:∀u∈f.L.flatMap sfC,u.oneCell'=NC:=λu hu=>by
     obtain⟨s,_,hs⟩:=TV.1 hu;simp only[sfC,XG,XO,UE]at hs;rcases hs with rfl|rfl|rfl|rfl|rfl|rfl|rfl<;>rfl
    replace O3:Hid _:=O3;replace J3:Hid _:=J3;replace Lf:Hid _:=Lf;replace Bo:Hid _:=Bo
    refine bE 0 3 11 92 95 103 51 7 n #[str p,a0,a1,l0,l1,e0,e1] (f.L.flatMap sfC) rfl rfl rfl rfl rfl rfl OC OC OB (λ_=>rfl) (λ_=>rfl) (λ_=>rfl) (λa W=>by simp[go_sem,NU,Act.eval])
     (by
       intro a' W ha;rcases ha with rfl|⟨v,rfl⟩|⟨v,v',rfl⟩<;>simp[go_sem,NU,Act.eval])
     (by
       intro a' b W ha hW hb hB;refine cN (.tmp 92) (.tmp 94) 24 w7.heap.size 51 7 64 Tryz.t51 _ rfl u24p i51p t51z t51s t51b rfl OC b hB hb ?_ ao n vc _ ?_ J3.out Lf.out (O3.out W hW) Bo.out (by simp[maxLen];omega) OA hW.size
       .rcases ha with rfl|⟨v',rfl⟩|⟨v',rfl⟩<;>simp[go_sem,Act.eval]
       .rcases ha with rfl|⟨v',rfl⟩|⟨v',rfl⟩<;>simp[go_sem,Act.eval])
     (λq hq=>hq) (λW8 v1 v3 bn Ds a2 Jy=> ?_)
    go_simp;obtain⟨X1,N6⟩:∃X:Sf,X=⟨⟨p.toArray⟩,a0,a1,l0,l1,e0,e1⟩:=⟨_,rfl⟩
    have D6:∀(j:Nat) u,(sfC X1)[j]? =I u->W8.cell? ((⟨bn,0,Z⟩:NP).add j)=I u:=λj u hj=>by
     rw[ZU,Z0 Jy];rw[N6]at hj;simpa[sfC]using hj
    refine PV 12 rfl OB rfl ?_
    refine wp_append_own W8 (.tmp 95) (.tmp 103) 24 rfl w7.heap.size 51 Tryz.t51 _ 7 64 u24p i51p t51z t51s t51b rfl OC _ n _ rfl a2 bn 1 1 (sfC X1) rfl rfl D6 (by intro u hu;rw[N6]at hu;simp only[sfC,XG,XO,UE]at hu;rcases hu with rfl|rfl|rfl|rfl|rfl|rfl|rfl<;>rfl)
     (by simp[maxLen];omega) OA Ds.size ?_
    intro v4 W9 a4 Bu _;have Bn:=Ds.grown Bu (λk hk=>(a2.lt k hk).1);refine⟨λ_=>Oy Bu (λk hk=>(a2.lt k hk).1),?_⟩;have a3:Xy w7.heap.size W9 v4 (f.L++[X1]):=by
     rw[Xy,XH,List.flatMap_append,G2];simpa using a4
    clear Bu a2 Jy D6 a4 O3 J3 Lf Bo Ds n0 n1 n2 n3 n4 n5 c0 q4 W8;obtain⟨am,cm,rfl,Ms⟩:=FG a3;rw[show(f.L++[X1]).length=n+1 by rw[XH,G2];rfl]at Ms a3⊢;have g5:=Bn.get z;have k4:=Z0 g5 4;have x4:=Z8 g5 4;simp only[YC,YA,YB]at k4;go_simp;refine Iv (ExtX.pre _) [13] OB OB ?_;simp only[ZR,YB,YA,YK,YJ]
    repeat (go_big_quiet_step (fail))
    refine XI ?_;refine PV 14 rfl OB rfl ?_;refine JN ⟨W9.setCell ⟨w.heap.size,4,Z⟩ (U am (n+1) cm),by simp[go_sem,NU,Act.eval,k4,x4],λh=>absurd h OC,?_⟩;go_simp;refine aC OB ?_;have g6:=Zb g5 (i:=4) (U am (n+1) cm);have g7:=(set_ne (w:=W9) (a:=⟨w.heap.size,4,Z⟩) (b:=w.heap.size+1) OD (U am (n+1) cm)).trans (Bn.get d);have Lp:Xy w7.heap.size (W9.setCell ⟨w.heap.size,4,Z⟩ (U am (n+1) cm)) (U am (n+1) cm) (f.L++[X1]):=XK a3 (a:=⟨w.heap.size,4,Z⟩) i0 (U am (n+1) cm);have i5:=Z5 d;have B0:=(((((Af.trans H).trans Ej).trans hD).trans Bn).setCell (a:=⟨w.heap.size,4,Z⟩) (U am (n+1) cm) (XA _));generalize W9.setCell ⟨w.heap.size,4,Z⟩ (U am (n+1) cm)=b4 at g6 g7 Lp B0⊢;have q0:=Z0 g6 0;have q1:=Z0 g6 1;have q2:=Z0 g6 2;have q3:=Z0 g6 3;have q4:=Z0 g6 4;have p0:=Z0 g7 0;have p1:=Z0 g7 1;have p2:=Z0 g7 2;have Y:=Z0 g7 3;have p4:=Z0 g7 4;have z0:=Z8 g7 0;have z1:=Z8 g7 1;have z2:=Z8 g7 2;have z3:=Z8 g7 3;have z4:=Z8 g7 4;simp only[YC,YA,YB,VM,UJ,UU]at q0 q1 q2 q3 q4 p0 p1 p2 Y p4
    replace g7:Hid _:=g7;replace Lp:Hid _:=Lp;clear g6 g5 k4 x4 a3 Ms Bn hD Ej E9 Rl z d Ip m3 m4 m5;have Sy:Hid (o=if(b1&&b2&&b3)=NC then I {f with L:=f.L++[X1]}else Z):=by
     show _=_;rw[<-V.out,<-Be.out,<-Aw.out,<-C1.out];cases F:Y3 q<;>cases h2:Y3 r<;>cases h3:Y3 t
     all_goals first
      |rfl
      |(obtain rfl:=hA.out _ F
        obtain rfl:=hB.out _ h2;obtain rfl:=hC.out _ h3;rw[N6];rfl)
    clear V Be Aw C1 hA hB hC hf;cases b1<;>cases b2<;>cases b3
    all_goals
     go_wp2
    all_goals first
     |(obtain rfl:o=Z:=Sy.out
       exact Iq rfl rfl rfl OA B0 g7.out)
     |(obtain rfl:o=I {f with L:=f.L++[X1]}:=Sy.out
       refine FU rfl rfl rfl (Y2 _ _ _ _ _ B0 OA) (Yz _ _ _ _ _ g7.out) λa5 h=> ?_
       cases h;exact⟨rfl,rfl,rfl,rfl,WX (N1 _ _ _ _ _ Lp.out i5) OA⟩)
def u231:Tryp.prog.underlying 231=I (.slice 91):=(underlying_eq 231).trans Tryz.underlying231
def i91:Tryp.prog.info? 91=I Tryz.t91:=OB
def t91z:Tryz.t91.zero=I .nilIface:=OB
def t91s:Tryz.t91.size=1:=OB
def t91b:Tryz.t91.bytes=16:=OB
def Er(v:NM):Prop:=v= .nilIface\/∃t x,v= .iface t x
def ErrV.er{α:Type}{o:Option α}(h:ErrV o v):Er v:=by
 cases o with|none=>exact .inr h|some=>exact .inl h
def EY{d:Nat}{c:Array NM}(h:w.ownsRow d e sz v n xs)(i:w.heap[B]? =I (J c t))(j:t≠e):v.ownBlock≠I B:=by
 intro f;rcases h.2 with⟨rfl,_⟩|⟨g,cp,_,rfl,_,u,_⟩
 .cases f
 .cases f;rw[u]at i;cases i;exact j rfl
def lf{d:Nat}{c:Array NM}(h:w.ownsRow d e sz v n xs)(g:w.heap[B]? =I (J c t))(f:t≠e)(x:NM):(w.setCell B x).ownsRow d e sz v n xs:=by
 refine h.kept (TZ w B x) ?_;cases hv:v.ownBlock with|none=>exact .inl rfl|some k=>exact .inr λq=>EY h g f (hv.trans q)
def BZ(b n c:Nat)(V:List NM)(w:NL)(Y:V.length=n)(hn:n<=100)(hE:∀v∈V,Er v)(hc:∀(j:Nat)(v:NM),V[j]? =I v->w.cell? ⟨b,j,Z⟩=I v):
 NW NY 130 #[U (I b) n c] w λe w'=>∃u,e= .returned u/\((∀v∈V,v= .nilIface)->u= .nilIface)/\((∃v∈V,v≠.nilIface)->∃t x,u= .iface t x)/\Ext w w':=by
 replace hc:Hid (∀(j:Nat)(v:NM),V[j]? =I v->w.cell? ⟨b,j,Z⟩=I v):=hc;replace hE:Hid (∀v∈V,Er v):=hE;replace Y:Hid (V.length=n):=Y;go_enter fq Tryz.func130,Tryz.ntmps130;go_wp2;obtain⟨wo,rfl⟩:∃wo:NL,wo=w:=⟨_,rfl⟩;go_loopw [3,5,11] (λv3 _ H wr=>∃i k:Nat,i<=n/\H= NE NF i/\v3= NE NF k/\k<=i/\wr=wo/\Hid (k=0↔∀v∈V.take i,v= .nilIface)) (λ_ _ H _=>n - (intOf H).toNat)
 case atStart=>exact⟨0,0,OA,rfl,rfl,XA _,rfl,(by show _↔_;simp:Hid _)⟩
 case round=>
  obtain⟨i,k,hi,rfl,rfl,_,rfl,z⟩:=hrel;by_cases Ao:i=n
  .subst Ao;have f:=z.out;rw[XX (by have:=Y.out;omega)]at f;replace f:Hid _:=f;clear z;by_cases h0:k=0
   .subst h0;have Dm:Hid (∀v∈V,v= .nilIface):=f.out.1 rfl;go_wp2;go_ret;exact⟨_,rfl,λ_=>rfl,λv d K=>absurd (Dm.out v d) K,Ext.rfl' _⟩
   .have Xx:0<k:=OA;obtain⟨L,hm,T,M⟩:=run_make_own (P:=NY) wr wr.heap.size 231 91 Tryz.t91 .nilIface 1 u231 i91 t91z t91s NF NF k (by rw[t91b];omega) (by simp[maxLen];omega) (XA _);have F:Ext wr L:=(Ext.rfl' wr).grown M (λk z=>by cases z);clear M;have Ye:(L.alloc (J #[U (I wr.heap.size) 0 k] 258)).heap[L.heap.size]? =I (J #[U (I wr.heap.size) 0 k] 258):=(by rw[Z3,YZ rfl]);replace T:=T.alloc (J #[U (I wr.heap.size) 0 k] 258);have R5:=F.alloc (J #[U (I wr.heap.size) 0 k] 258);have Aq:=F.size;have K:Hid (∃v∈V,v≠.nilIface):=VQ λh=>h0 (f.out.2 λv d=>VQ λh2=>h ⟨v,d,h2⟩)
    clear f;go_wp2;generalize L.alloc (J #[U (I wr.heap.size) 0 k] 258)=w1 at Ye T R5⊢;generalize L.heap.size=B at Ye Aq⊢;obtain⟨w0,rfl⟩:∃w0,w0=wr:=⟨_,rfl⟩;clear ‹((k:Int)==0)=ND›;generalize ((k:Int)==0)=bk;clear hm F;go_loopw [28] (λC wr=>∃(j:Nat)(l:List NM)(v:NM),C= NE NF j/\j<=i/\l.length<=j/\Ext w0 wr/\wr.heap[B]? =I (J #[v] 258)/\wr.ownsRow w0.heap.size 91 1 v l.length l) (λC _=>i - (intOf C).toNat)
    case atStart=>exact⟨0,[],_,rfl,XL _,XA _,R5,Ye,T⟩
    case round=>
     obtain⟨j,l,v,rfl,_,_,O,A,Ac⟩:=hrel;clear T Ye R5;by_cases Rr:j=i
     .subst Rr;go_wp2;go_ret;refine⟨_,rfl,λh=> ?_,λ_=>⟨_,_,rfl⟩,O⟩;obtain⟨v,d,K⟩:=K.out;exact absurd (h v d) K
     .obtain⟨x,hx⟩:∃v,V[j]? =I v:=⟨_,YH (by have:=Y.out;omega)⟩;have A5:(j:Int)<(i:Int):=OA;have c0:=O.cellS (hc.out j x hx);have Av:=hE.out x (YQ hx);have q0:=Z0 A 0;have z0:=Z8 A 0;simp only[YC,YA]at q0;have Fx:l.length+1<=maxLen:=(by simp[maxLen];omega);have Ef:(l.length+1)*16<=140737488355328:=OA;replace A:Hid _:=A;clear hx;rcases Av with rfl|⟨t,y,rfl⟩
      .go_wp2;go_roundw
       case rel=>exact⟨j+1,l,v,by push_cast;rfl,OA,OA,O,A.out,Ac⟩
       case measure=>simp[intOf];omega
      .go_wp2_with (first
        |(at_builtin
          refine UB _ rfl _ _ _ rfl w0.heap.size 91 Tryz.t91 .nilIface 1 16 u231 i91 t91z t91s t91b rfl OA _ _ _ rfl (Ac.alloc _) _ 1 1 [.iface t y] rfl rfl (WU _ _ _) (by intro u hu;simp at hu;subst hu;rfl) Fx Ef (by have:=O.size;simp;omega) ?_;intro _ w3 Ae A6 _;obtain⟨g,cp,rfl,_,_⟩:=XT Ae OA;have Ad:Ext w0 w3:=(O.alloc _).grown A6 (λk z=>(Ac.lt k z).1);have K5:w3.heap[B]? =I (J #[v] 258):=(A6.block B (by simp;have:=Z5 A.out;omega) (λe=>EY (Ac.alloc (J #[.iface t y] 91)) (((Ext.rfl' _).alloc _).get A.out) OC e.symm)).trans (((Ext.rfl' _).alloc _).get A.out);clear q0 z0;have q0:=Z0 K5 0;have z0:=Z8 K5 0;simp only[YC,YA]at q0))
       have a0:=Zb K5 (i:=0) (U (I g) (l.length+1) cp);have Iz:=lf Ae K5 OC (U (I g) (l.length+1) cp);go_roundw
       case rel=>exact⟨j+1,l++[.iface t y],_,by push_cast;rfl,OA,by simp;omega,Ad.setCell _ _ Aq,a0,by rw[XH];exact Iz⟩
       case measure=>simp[intOf];omega
  .have A5:(i:Int)<(n:Int):=OA
   obtain⟨v,d⟩:∃v,V[i]? =I v:=⟨_,YH (by have:=Y.out;omega)⟩;have c0:=hc.out i v d;have Af:=hE.out v (YQ d);have ht:Hid (V.take (i+1)=V.take i++[v]):=by show _=_;rw[VL,d];rfl
   clear d;rcases Af with rfl|⟨t,x,rfl⟩
   .have f:Hid (k=0↔∀v∈V.take (i+1),v= .nilIface):=by
     show _↔_;rw[ht.out,z.out];simp only[VI,XP];exact⟨λh v d=>d.elim (h v) id,λh v d=>h v (.inl d)⟩
    clear z ht;go_wp2;go_roundw
    case rel=>exact⟨i+1,k,OA,by push_cast;rfl,rfl,OA,trivial,f⟩
    case measure=>simp[intOf];omega
   .have f:Hid (k+1=0↔∀v∈V.take (i+1),v= .nilIface):=by
     show _↔_;rw[ht.out];refine⟨λh=>by omega,λh=> ?_⟩;have:=h (.iface t x) OD;cases this
    clear z ht;go_wp2;go_roundw
    case rel=>exact⟨i+1,k+1,OA,by push_cast;rfl,by push_cast;rfl,OA,trivial,f⟩
    case measure=>simp[intOf];omega
end Go.Proofs.Tryp
