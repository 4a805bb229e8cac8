import Derived.Test.YthahddndgbpooaaGreatDoorNk05
import Derived.BigQuiet
set_option linter.all false
set_option maxRecDepth 100000
set_option maxHeartbeats 2000000
open Go
open Option renaming some->U,none->NB
open Bool renaming true->Z,false->J
open Go renaming World->I,Act->NV,execOp->NU,Value->NM,undef->NQ,Program->NO,Calls->NW,FuncId->NS,Addr->NP,TypeId->NT
open Go.Value renaming pointer->NI,slice->NG,int->NE
open Go.IntKind renaming i64->NF
open Go.Obj renaming cells->NH
variable {a a':NV}{ops:Array Oper}{args c:Array NM}{R:Exit->NV->I->Prop}{fn:Func}{f:NS}{r0 r1 r2 r3 x:Int}{pre:List Nat}{b i j k m q t:Nat}{ℓ:Nat->Bool}{A A':Nat->Prop}{obj:Obj}{o oi oq:Oper}{row:Option Nat}{P:NO}{p:Tmp}{ty:NT}{u v:NM}{W w w' w'':I}
namespace Go.Proofs.Tryq
open Go.Nk Go.RowKit
def u112:prog.underlying 186=U (.slice 129):=(underlying_eq 186).trans Tryz.underlying186
def i81:prog.info? 129=U Tryz.t129:=OB
def Ext.grown(h:Ext w w')(g:w'.grownBy w'' row)(y:∀k,row=U k->w.heap.size<=k):Ext w w'':=
 ⟨XC h.size g.size,λb n=>(g.block b (YS n h.size) (λe=>by have:=y b e.symm;omega)).trans (h.old b n),g.tape.trans h.tape,g.os.trans h.os,g.output.trans h.output⟩
def Vx(g:w.grownBy w' row){b:Nat}{o:Obj}(h:U b≠row)(e:w.heap[b]? =U o):w'.heap[b]? =U o:=
 (g.block b (Z5 e) h).trans e
def ZU(b j:Nat):(⟨b,0,NB⟩:NP).add j=⟨b,j,NB⟩:=by unfold Addr.add;split<;>simp_all
def OU(w:I)(g:Nat)(e:NT)(h:Array NM)(n H:Nat)(B:w.heap.size=H)(C:g<=H)(y:h.size=n)(z:n<=maxLen):(w.alloc (NH h e)).ownsRow g e 1 (NG (U H) n n) n h.toList:=by
 subst B;refine⟨by simp[y],.inr ⟨w.heap.size,n,h,rfl,C,by rw[Z3,YZ rfl],XA _,z,OA,?_⟩⟩;rw[XX];simp[y]
def ME{t:NT}(h:w.heap[b]? =U (NH c t))(n:c[i]? =U v):Ext w (w.setCell ⟨b,i,NB⟩ v)/\(w.setCell ⟨b,i,NB⟩ v).heap[b]? =U (NH c t):=by
 have e:c.setIfInBounds i v=c:=by
  apply Array.ext_getElem?;intro j;rw[Array.getElem?_setIfInBounds];by_cases g:i=j
  .subst g;have y:=(YF.1 n).1;rw[YZ rfl,YZ y,n]
  .rw[XB g]
 have g:=Zb (i:=i) h v;rw[e]at g;have e:=VT w ⟨b,i,NB⟩ v;refine⟨⟨by rw[e.size];exact XA _,λk _=> ?_,e.tape,e.os,e.output⟩,g⟩;by_cases e:k=b
 .subst e;rw[g,h]
 .exact set_ne e v
def MW{t:Tmp}(h:fn.results= #[.cell p ty,.tmp t])(e:Array NM)(P:NO)(w:I):
 (results fn e).run P w=(((asAddr (e.getD p NQ)).run P w).andThen λa n=>(loadVar ty a).run P n).andThen λv g=> .ok (.tuple #[v,e.getD t NQ]) g:=by
 simp only[results,h];simp[UH,Result.andThen];cases (asAddr (e[p]?.getD NQ)).run P w with
 |ok a _=>
  simp
 |halt x _=>simp
def Ze(s:Rs):Sh:=⟨s.a.toNat,s.m,s.M,s.wi,s.li⟩
def PH{S:List Rs}(h:ZC r0 r1 r2 r3 S=0):Sw r0 r1 r2 r3=0/\S.length<=8/\∀s∈S,okS s=Z:=by
 by_cases g:Sw r0 r1 r2 r3=0
 .refine⟨g,?_⟩;simp only[ZC,firstV,YZ g]at h;have e:Uk S=0:=by
   by_cases e:Uk S=0
   .exact e
   .rw[XB e]at h;exact h
  unfold Uk at e;split at e
  .omega
  .split at e
   .rename_i h8 ha;exact⟨OA,YL.1 ha⟩
   .omega
 .simp only[ZC,firstV,XB g]at h;exact absurd h g
def DU{e:Option NP}{S:List Rs}(h:RawS w e S)(C:∀s∈S,okS s=Z):Shots w e (S.map Ze):=by
 intro i s hi;rw[List.getElem?_map]at hi;obtain⟨x,n,rfl⟩:=VA.1 hi;obtain⟨b,g,F,B,z,L,y,E,H⟩:=h i x n;have K:=C x (YQ n);have n:0<=x.a/\x.a<=90:=by
  simp[okS,okN]at K;omega
 refine⟨b,g,F,B,by simp only[Ze];omega,?_,L,y,E,H⟩;simp only[Ze];rw[Int.toNat_of_nonneg n.1];exact z
def Zy(r0 r1 r2 r3:Int)(S:List Rs)(e:List Int):List Int:=ZC r0 r1 r2 r3 S::(e++[M9 S.length,Ov r0 r1 r2 r3 (S.map Ze)])
abbrev Fn3:=NS×Array NM×Array NM
def fn3(x:Fn3):NM:= .func (.func x.1) x.2.1 x.2.2
def WB(b e:Nat)(L:List Fn3):List Fn3:=(108,#[],#[NI (U b)])::(L++[(109,#[],#[NI (U b)]),(110,#[],#[NI (U b),NI (U e)])])
def hU{l:List Int}{n:Nat}(B:l.length=n){v:Int}(h:(v=0/\∀i,i<n->l.getD i 0=0)\/∃i,i<n/\l.getD i 0≠0/\v=l.getD i 0/\∀j,j<i->l.getD j 0=0):v=firstV l:=by
 rcases h with⟨rfl,e⟩|⟨i,hi,z,rfl,e⟩
 .rw[firstV_zero];intro i x g;have:=e i (by have:=(YI.1 g).1;omega);rw[List.getD_eq_getElem?_getD,g]at this;exact this
 .rw[firstV_at (l:=l) (i:=i) (x:=l.getD i 0) ?_ z]
  .intro j y hj hy;have:=e j hj;rw[List.getD_eq_getElem?_getD,hy]at this;exact this
  .rw[List.getD_eq_getElem?_getD,YH OA];rfl
def pA{l:List Int}(h:firstV (x::l)=0):x=0:=by
 by_cases e:x=0
 .exact e
 .rw[firstV,XB e]at h;exact h
def oe(r0 r1 r2 r3:Int)(C:Option NP)(n M g X E F m:Nat)(O Y:I)(hm:m<=4)(L:List Fn3)(T:List Int)(hL:L.length=m)(Hr:T.length=m)
 (a5:∀x∈L,∀args w',(callFunc x.1 args).run prog w'= .ok (.enter x.1 args) w')
 (a4:∀(j:Nat)(x:Fn3)(r:Int),L[j]? =U x->T[j]? =U r->∀w',Ext O w'->NW prog x.1 (x.2.1++x.2.2) w' (OI (NE NF r) w'))
 (S:List Rs)(A1:S.length=n)(hS:RawS O C S)(E7:Most O)(hE:Ext O Y)(F2:O.heap.size<=F)(Mi:E≠F)
 (hc:Y.heap[E]? =U (NH #[r0,r1,r2,r3,NG C n M] 31))
 (k0 k1 k2 k3:Int)(b4:Option NP)(n4 c4:Nat)(b5:Option NP)(n5 c5:Nat)(hs:Y.heap[F]? =U (NH #[NE NF k0,NE NF k1,NE NF k2,NE NF k3,NG b4 n4 c4,NG b5 n5 c5] 136))
 (hx:∀(j:Nat)(x:Fn3),(WB E F L)[j]? =U x->Y.cell? ⟨g,j,NB⟩=U (fn3 x)):
 NW prog 61 #[NG (U g) (1+m+2) X] Y λe w'=>∃k0 k1 k2 k3 b4 n4 c4 b5 n5 c5,e= .returned (NE NF (firstV (Zy r0 r1 r2 r3 S T)))/\Ext O w'/\w'.heap[F]? =U (NH #[NE NF k0,NE NF k1,NE NF k2,NE NF k3,NG b4 n4 c4,NG b5 n5 c5] 136)/\
  (firstV (Zy r0 r1 r2 r3 S T)=0->∃B p,k0=r0/\k1=r1/\k2=r2/\k3=r3/\b4=C/\n4=n/\c4=M/\b5=U ⟨B,0,NB⟩/\n5=n/\c5=n/\Cv w' B n p (cvS r0 r1 r2 r3 (S.map Ze))/\O.heap.size<=B/\∀i,O.heap.size<=p i):=by
 have Mq:(WB E F L).length=1+m+2:=by simp[WB,hL];omega
 have Fi:(Zy r0 r1 r2 r3 S T).length=1+m+2:=by simp[Zy,Hr];omega
 have a1:∀i,i<1+m+2->∃x,(WB E F L)[i]? =U x/\(WB E F L).getD i (0,#[],#[])=x:=λi hi=>⟨_,YH OA,by rw[List.getD_eq_getElem?_getD,YH OA];rfl⟩
 have h1:1<O.heap.size:=by
  have:=E7.m0;unfold World.cell? at this;split at this
  .rename_i hh;exact Z5 hh
  .cases this
 let SX:I->Prop:=λw'=>∃B p,w'.heap[F]? =U (NH #[r0,r1,r2,r3,NG C n M,NG (U ⟨B,0,NB⟩) n n] 136)/\Cv w' B n p (cvS r0 r1 r2 r3 (S.map Ze))/\O.heap.size<=B/\∀i,O.heap.size<=p i
 let y:Nat->I->Prop:=λi w'=>Ext O w'/\(i<=m+2->Ext Y w')/\(1<=i->ZC r0 r1 r2 r3 S=0)/\(i=1+m+2->SX w')
 let z:I->Prop:=λw'=>Ext O w'/\∃k0 k1 k2 k3 b4 n4 c4 b5 n5 c5,w'.heap[F]? =U (NH #[NE NF k0,NE NF k1,NE NF k2,NE NF k3,NG b4 n4 c4,NG b5 n5 c5] 136)
 refine(DZ g (1+m+2) X OA (λi=>((WB E F L).getD i (0,#[],#[])).1) (λi=>((WB E F L).getD i (0,#[],#[])).2.1) (λi=>((WB E F L).getD i (0,#[],#[])).2.2) y z (λi=>(Zy r0 r1 r2 r3 S T).getD i 0) Y ?_ ?_ ?_ ⟨hE,λ_=>Ext.rfl' Y,λh=>by omega,λh=>by omega⟩).mono ?_
 .rintro i hi w' ⟨-,A2,-⟩;obtain⟨x,C8,Av⟩:=a1 i hi;rw[Av];exact(A2 OA).cellS (hx i x C8)
 .intro i hi args w';obtain⟨x,C8,Av⟩:=a1 i hi;simp only[Av];have Cp:=YQ C8;simp only[WB,XG,VI,XO,UE]at Cp;rcases Cp with rfl|Cp|rfl|rfl
  .simp[go_sem]
  .exact a5 x Cp args w'
  .simp[go_sem]
  .simp[go_sem]
 .rintro i hi w' ⟨H,hE2',Hs,-⟩;have A2:=hE2' OA;have a0:=A2.get hc;have V:=A2.get hs;by_cases D8:i=0
  .subst D8;show NW prog 108 #[NI (U E)] w' _;refine(ms r0 r1 r2 r3 C n M S w' A1 (hS.ext H) E a0).r λw'' K=> ?_;exact⟨rfl,λhr=>⟨H.trans K,λ_=>A2.trans K,λ_=>hr,λh=>by omega⟩,λ_=>⟨H.trans K,_,_,_,_,_,_,_,_,_,_,K.get V⟩⟩
  .have Ng:=Hs OA;by_cases a6:i<=m
   .obtain⟨k,rfl⟩:∃k,i=k+1:=⟨i - 1,OA⟩;have hk:L[k]? =U L[k]:=YH OA;have hr:T[k]? =U T[k]:=YH OA;have e1:(WB E F L).getD (k+1) (0,#[],#[])=L[k]:=by
     rw[List.getD_eq_getElem?_getD,WB,YB,List.getElem?_append_left OA,hk];rfl
    have e2:(Zy r0 r1 r2 r3 S T).getD (k+1) 0=T[k]:=by
     rw[List.getD_eq_getElem?_getD,Zy,YB,List.getElem?_append_left OA,hr];rfl
    simp only[e1,e2];refine(a4 k _ _ hk hr w' H).r λw'' K=> ?_;exact⟨rfl,λhr=>⟨H.trans K,λ_=>A2.trans K,λ_=>Ng,λh=>by omega⟩,λ_=>⟨H.trans K,_,_,_,_,_,_,_,_,_,_,K.get V⟩⟩
   .have eA:∀j,(WB E F L).getD (m+1+j) (0,#[],#[])=[((109:NS),(#[]:Array NM),#[Value.pointer (U E)]),(110,#[],#[NI (U E),NI (U F)])].getD j (0,#[],#[]):=by
     intro j;rw[List.getD_eq_getElem?_getD,WB,show m+1+j=m+j+1 by omega,YB,List.getElem?_append_right OA,List.getD_eq_getElem?_getD];congr 2;omega
    have eR:∀j,(Zy r0 r1 r2 r3 S T).getD (m+1+j) 0=[M9 S.length,Ov r0 r1 r2 r3 (S.map Ze)].getD j 0:=by
     intro j;rw[List.getD_eq_getElem?_getD,Zy,show m+1+j=m+j+1 by omega,YB,List.getElem?_append_right OA,List.getD_eq_getElem?_getD];congr 2;omega
    by_cases Is:i=m+1
    .subst Is;have e1:=eA 0;have e2:=eR 0;simp only[RS,List.getD_cons_zero]at e1 e2;simp only[e1,e2];show NW prog 109 #[NI (U E)] w' _;rw[A1];refine(nk r0 r1 r2 r3 C n M w' E a0).r λw'' K=> ?_;exact⟨rfl,λhr=>⟨H.trans K,λ_=>A2.trans K,λ_=>Ng,λh=>by omega⟩,λ_=>⟨H.trans K,_,_,_,_,_,_,_,_,_,_,K.get V⟩⟩
    .obtain rfl:i=m+1+1:=OA;have e1:=eA 1;have e2:=eR 1;simp only[List.getD_cons_zero,List.getD_cons_succ]at e1 e2;simp only[e1,e2];show NW prog 110 #[NI (U E),NI (U F)] w' _;obtain⟨_,_,ha⟩:=PH Ng;refine(nQ r0 r1 r2 r3 C M w' (S.map Ze) n (by simp[A1]) OA (DU (hS.ext H) ha) E F a0 (E7.ext H) OA _ _ _ _ _ _ V).mono ?_;rintro e w'' ⟨rfl,K,B,p,hB,hC,Ro,Mr⟩;have a2:=K.before H F2;exact⟨rfl,λhr=>⟨a2,λh=>by omega,λ_=>Ng,λ_=>⟨B,p,hB,hC,XC H.size Ro,λi=>XC H.size (Mr i)⟩⟩,λ_=>⟨a2,_,_,_,_,_,_,_,_,_,_,hB⟩⟩
 .rintro e w' ⟨v,rfl,h⟩;have hv:v=firstV (Zy r0 r1 r2 r3 S T):=by
   refine hU Fi ?_;rcases h with⟨h1,_,h3⟩|⟨i,h1,h2,h3,h4,_⟩
   .exact .inl ⟨h1,h3⟩
   .exact .inr ⟨i,h1,h2,h3,h4⟩
  subst hv;rcases h with⟨_,⟨H,_,_,a3⟩,_⟩|⟨i,_,Ab,hv,_,H,_,_,_,_,q1,q2,q3,q4,q5,q6,hb⟩
  .obtain⟨B,p,hB,hC,Ro,Mr⟩:=a3 rfl;exact⟨_,_,_,_,_,_,_,_,_,_,rfl,H,hB,λ_=>⟨B,p,rfl,rfl,rfl,rfl,rfl,rfl,rfl,rfl,rfl,rfl,hC,Ro,Mr⟩⟩
  .exact⟨_,_,_,_,_,_,_,_,_,_,rfl,H,hb,λh0=>absurd (hv.symm.trans h0) Ab⟩
def Ie(r0 r1 r2 r3:Int)(y:Option NP)(n C:Nat)(w:I)(m:Nat)(B:Nat)(hm:0<m/\m<=4)(L:List Fn3)(M:List Int)(hL:L.length=m)(Hr:M.length=m)
 (Bb:∀(j:Nat)(x:Fn3),L[j]? =U x->w.cell? ⟨B,j,NB⟩=U (fn3 x))
 (a6:∀x∈L,∀args w',(callFunc x.1 args).run prog w'= .ok (.enter x.1 args) w')
 (a5:∀(j:Nat)(x:Fn3)(r:Int),L[j]? =U x->M[j]? =U r->∀w',Ext w w'->NW prog x.1 (x.2.1++x.2.2) w' (OI (NE NF r) w'))
 (S:List Rs)(A1:S.length=n)(hS:RawS w y S)(E7:Most w):
 NW prog 67 #[.agg #[r0,r1,r2,r3,NG y n C],NG (U B) m m] w λe w'=>∃k0 k1 k2 k3 X T O H K V,e= .returned (.tuple #[.agg #[NE NF k0,NE NF k1,NE NF k2,NE NF k3,NG X T O,NG H K V],NE NF (firstV (Zy r0 r1 r2 r3 S M))])/\Ext w w'/\
  (firstV (Zy r0 r1 r2 r3 S M)=0->∃B p,k0=r0/\k1=r1/\k2=r2/\k3=r3/\X=y/\T=n/\O=C/\H=U ⟨B,0,NB⟩/\K=n/\V=n/\Cv w' B n p (cvS r0 r1 r2 r3 (S.map Ze))/\w.heap.size<=B/\∀i,w.heap.size<=p i):=by
 have Xh:Tryz.t129.zero=U .nilFunc:=OB
 have On:Tryz.t129.size=1:=OB
 have Og:Tryz.t129.bytes=8:=OB
 have Ro:B<w.heap.size:=by
  have:=Bb 0 _ (YH OA);unfold World.cell? at this;split at this
  .rename_i hh;exact Z5 hh
  .cases this
 go_enter fk Tryz.func67,Tryz.ntmps67
 go_wp2_with (
  first
  |(at_builtin
    refine wpList_append_lies _ rfl _ _ _ rfl w.heap.size 129 Tryz.t129 .nilFunc 1 8 u112 i81 Xh On Og rfl OA (NG (U ⟨w.heap.size+1+1,0,NB⟩) 1 1) 1 [.func (.func 108) #[] #[NI (U w.heap.size)]] rfl (OU _ _ _ _ 1 _ OD OA rfl (by simp only[maxLen];omega)) B m m (L.map fn3) rfl (by simp;omega) (by
     intro j u F;rw[ZU];rw[List.getElem?_map]at F;obtain⟨x,hx,rfl⟩:=VA.1 F;exact((((Ext.rfl' w).alloc _).alloc _).alloc _).cellS (Bb j x hx)) (by intro u F;obtain⟨x,_,rfl⟩:=VW.1 F;rfl) OA (by simp only[maxLen];omega) OA (by simp;omega) (w.heap.size+1+1+1) OD ?_
    intro g a1 w1 Ac Cd a2 _;have Af:Ext w w1:=((((Ext.rfl' w).alloc _).alloc _).alloc _).grown Cd (by intro k hk;simp only[Value.ownBlock,XM]at hk;omega);have Hc:g=w.heap.size+1+1\/g=w.heap.size+1+1+1:=(by simpa[Value.ownBlock,eq_comm]using a2);have Ga:=Vx Cd (b:=w.heap.size) (o:= NH #[r0,r1,r2,r3,NG y n C] 31) (by simp[Value.ownBlock];omega) (by simp only[Z3,Z2];rw[XB OA,XB OA,YZ trivial]);have Bo:=Vx Cd (b:=w.heap.size+1) (o:= NH #[NE NF 0,NE NF 0,NE NF 0,NE NF 0,NG NB 0 0,NG NB 0 0] 136) (by simp[Value.ownBlock]) (by simp only[Z3,Z2];rw[XB OA,YZ trivial]);clear a2 Cd)
  |(at_builtin
    refine wpList_append_lies _ rfl _ _ _ rfl w.heap.size 129 Tryz.t129 .nilFunc 1 8 u112 i81 Xh On Og rfl OA (NG (U g) (1+m) a1) (1+m) _ rfl (Ac.alloc _) w1.heap.size 2 2 [.func (.func 109) #[] #[NI (U w.heap.size)],.func (.func 110) #[] #[NI (U w.heap.size),NI (U ⟨w.heap.size+1,0,NB⟩)]] rfl rfl (World.news_of_block (by rw[Z3,YZ rfl])) (by intro u F;simp at F;rcases F with rfl|rfl<;>rfl) OA (by simp only[maxLen];omega) OA (by have:=Af.size;simp;omega) _ rfl ?_;intro g2 a3 w2 Df Gl a0 Gm)
  |(go_at_call 61
    have A2:Ext w w2:=(Af.alloc _).grown Gl (by intro k hk;simp only[Value.ownBlock,XM]at hk;omega);have Mm:=Af.size;have Dq:=Vx Gl (b:=w.heap.size) (o:= NH #[r0,r1,r2,r3,NG y n C] 31) (by simp[Value.ownBlock];omega) (by rw[Z3,XB (by have:=Z5 Ga;omega)];exact Ga);have C6:=Vx Gl (b:=w.heap.size+1) (o:= NH #[NE NF 0,NE NF 0,NE NF 0,NE NF 0,NG NB 0 0,NG NB 0 0] 136) (by simp[Value.ownBlock];omega) (by rw[Z3,XB (by have:=Z5 Bo;omega)];exact Bo);have hx:∀(j:Nat)(x:Fn3),(WB w.heap.size (w.heap.size+1) L)[j]? =U x->w2.cell? ⟨g2,j,NB⟩=U (fn3 x):=by
     intro j x a4
     have:=Df.cells rfl j (fn3 x) (by
      rw[show∀a b c:List NM,a++b++c=(a++b)++c from λ_ _ _=>rfl];have e:(WB w.heap.size (w.heap.size+1) L).map fn3=[Value.func (Fn.func 108) #[] #[Value.pointer (U w.heap.size)]]++L.map fn3++[Value.func (Fn.func 109) #[] #[Value.pointer (U w.heap.size)],Value.func (Fn.func 110) #[] #[Value.pointer (U w.heap.size),Value.pointer (U ⟨w.heap.size+1,0,NB⟩)]]:=(by simp[WB,fn3]);have h2:((WB w.heap.size (w.heap.size+1) L).map fn3)[j]? =U (fn3 x):=(by rw[List.getElem?_map,a4];rfl);rw[e]at h2;exact h2)
     rw[ZU]at this;exact this
    clear Ac Df Gl a0 Gm Ga Bo;refine(oe r0 r1 r2 r3 y n C g2 a3 w.heap.size (w.heap.size+1) m w w2 hm.2 L M hL Hr a6 a5 S A1 hS E7 A2 OA OA Dq _ _ _ _ _ _ _ _ _ _ C6 hx).mono ?_;rintro e _ ⟨k0,k1,k2,k3,X,T,O,H,K,V,rfl,Ad,z,B1⟩;have x0:=Z0 z 0;have x1:=Z0 z 1;have Y:=Z0 z 2;have x3:=Z0 z 3;have x4:=Z0 z 4;have x5:=Z0 z 5;have z0:=Z8 z 0;have z1:=Z8 z 1;have z2:=Z8 z 2;have z3:=Z8 z 3;have z4:=Z8 z 4;have z5:=Z8 z 5;simp only[YC,YA,YB]at x0 x1 Y x3 x4 x5))
 have t0:=ME (i:=0) (v:= NE NF k0) z rfl;have t1:=ME (i:=1) (v:= NE NF k1) t0.2 rfl;have t2:=ME (i:=2) (v:= NE NF k2) t1.2 rfl;have t3:=ME (i:=3) (v:= NE NF k3) t2.2 rfl;have t4:=ME (i:=4) (v:= NG X T O) t3.2 rfl;have t5:=ME (i:=5) (v:= NG H K V) t4.2 rfl;have Ag:=((((t0.1.trans t1.1).trans t2.1).trans t3.1).trans t4.1).trans t5.1;have E:=t5.2;clear t0 t1 t2 t3 t4 t5 x0 x1 Y x3 x4 x5 z0 z1 z2 z3 z4 z5;generalize World.setCell _ ⟨w.heap.size+1,5,NB⟩ _=w4 at Ag E⊢;refine VE (v:= .tuple #[.agg #[NE NF k0,NE NF k1,NE NF k2,NE NF k3,NG X T O,NG H K V],NE NF (firstV (Zy r0 r1 r2 r3 S M))]) ((MW rfl _ _ _).trans ?_) rfl ⟨k0,k1,k2,k3,X,T,O,H,K,V,rfl,Ad.trans Ag,λh=> ?_⟩
 .have x0:=Z0 E 0;have x1:=Z0 E 1;have Y:=Z0 E 2;have x3:=Z0 E 3;have x4:=Z0 E 4;have x5:=Z0 E 5;simp only[YC,YA,YB]at x0 x1 Y x3 x4 x5;simp[go_sem,x0,x1,Y,x3,x4,x5]
 .obtain⟨B,p,h0,h1,h2,h3,h4,h5,h6,h7,h8,h9,hC,Ro,Mr⟩:=B1 h;exact⟨B,p,h0,h1,h2,h3,h4,h5,h6,h7,h8,h9,hC.ext Ag,Ro,Mr⟩
end Go.Proofs.Tryq
namespace Go.Nk
section
open Go.Proofs.Tryq
structure Gr where
 d:Nat
 os:Array Obj
 deriving Inhabited
def gr(w:I)(d:Nat)(e:Array Obj):I:={w with drawn:=d,heap:=w.heap++e}
def lj(w:I)(d:Nat)(e:Array Obj):Ext w (gr w d e):=
 ⟨by simp[gr],λb g=>by simp[gr,Array.getElem?_append,g],rfl,rfl,rfl⟩
def jH(h:Ext w w'):∃p:Gr,w'=gr w p.d p.os:=by
 refine⟨⟨w'.drawn,w'.heap.extract w.heap.size w'.heap.size⟩,?_⟩;obtain⟨C,B,z,n,y⟩:=h;obtain⟨e,_,_,_,_⟩:=w';simp only at C B z n y;subst z n y;have F:e=w.heap++e.extract w.heap.size e.size:=by
  apply Array.ext_getElem?;intro k;by_cases g:k<w.heap.size
  .rw[Array.getElem?_append_left g];exact B k g
  .rw[Array.getElem?_append_right OA,Array.getElem?_extract];by_cases E:k<e.size
   .rw[YZ OA];congr 1;omega
   .rw[XB OA,Array.getElem?_eq_none OA]
 simp only[gr];congr 1
def ZQ{a:NP}(h:w.cell? a=U v)(d:Nat)(e:Array Obj):(gr w d e).cell? a=U v:=(lj w d e).cellS h
end
section
open Go.Region
variable {Q:Exit->NV->I->Prop}
def upd(ℓ:Nat->Bool)(i:Nat):Nat->Bool:=λj=>j==i||ℓ j
def HL(ℓ:Nat->Bool)(i:Nat):upd ℓ i i=Z:=by simp[upd]
def upd_ne(h:j≠i):upd ℓ i j=ℓ j:=by simp[upd,h]
def ahead(o:Oper):List Nat:=(o.after.toList.filter (binds .any)).map (·.on)
def mem_ready{g:Array Bool}:i∈Region.ready .any ops g↔i<ops.size/\g.getD i Z=J/\∃o,ops[i]? =U o/\∀k∈ahead o,g.getD k J=Z:=by
 unfold Region.ready;rw[UO,YU];simp only[YG,XZ];constructor
 .rintro⟨h1,h2,h3⟩;refine⟨h1,h2,?_⟩;have hi:=YN h1;refine⟨ops[i],hi,?_⟩;rw[hi]at h3;simp only[XN,UM]at h3;intro k n;unfold ahead at n;obtain⟨e,h,rfl⟩:=VW.1 n;obtain⟨y,z⟩:=UO.1 h;rw[Array.all_eq_true']at h3;have:=h3 e (by simpa using y);rw[z]at this;simpa using this
 .rintro⟨h1,h2,o,ho,h3⟩;refine⟨h1,h2,?_⟩;rw[ho];simp only[XN,UM];rw[Array.all_eq_true'];intro e h;cases hb:binds .any e
  .rfl
  .have:=h3 e.on (VW.2 ⟨e,UO.2 ⟨by simpa using h,hb⟩,rfl⟩);simpa using this
def LN(ops:Array Oper):Bool:=(List.range ops.size).all λi=>match ops[i]? with|some o=>(ahead o).all λk=>decide (k<i)|none=>Z
def IU(g:LN ops=Z){listed:Array Bool}(y:listed.size=ops.size)(n:Region.ready .any ops listed=[]):∀i,i<ops.size->listed.getD i J=Z:=by
 intro i
 induction i using Nat.strongRecOn with
 |ind i h=>
  intro hi;cases hb:listed.getD i J
  .have Cp:i∈Region.ready .any ops listed:=by
    rw[mem_ready];refine⟨hi,?_,ops[i],YN hi,?_⟩
    .simp only[Array.getD_eq_getD_getElem?,YN (y▸hi),UM]at hb⊢;exact hb
    .intro k hk;have:=YL.1 g i (YU.2 hi);rw[YN hi]at this;have e:=YL.1 this k hk;simp only[XE]at e;exact h k e OA
   rw[n]at Cp;cases Cp
  .rfl
def dx(Y:LN ops=Z)(g:(Nat->Bool)->NV->I->Prop)
 (step:∀i o,ops[i]? =U o->∀ℓ a w,ℓ i=J->(∀k∈ahead o,ℓ k=Z)->g ℓ a w->wpOp P ops Q i (λa' w'=>g (upd ℓ i) a' w') a w)
 (C:∀ℓ a w,(∀i,i<ops.size->ℓ i=Z)->g ℓ a w->Q .normal a w):
 ∀n (h:Array Bool) a w,h.size=ops.size->(List.range ops.size).countP (λi=> !h.getD i J)<=n->g (λj=>h.getD j J) a w->wpAny P .any ops Q n h a w:=by
 intro n
 induction n with
 |zero=>
  intro h a w B hc F;have L:∀i,i<ops.size->h.getD i J=Z:=by
   intro i hi;have O:(List.range ops.size).countP (λi=> !h.getD i J)=0:=OA
   have:=List.countP_eq_zero.1 O i (YU.2 hi);simpa using this
  refine⟨?_,C _ a w L F⟩;apply List.eq_nil_iff_forall_not_mem.2;intro i hi;rw[mem_ready]at hi;obtain⟨z,y,_⟩:=hi;have:=L i z;simp only[Array.getD_eq_getD_getElem?,YN (B▸z),UM]at this y;rw[this]at y;cases y
 |succ n ih=>
  intro h a w B hc F;refine⟨λV=>C _ a w (IU Y B V) F,?_⟩;intro i hi;rw[mem_ready]at hi;obtain⟨z,y,o,T,X⟩:=hi;have K:h.getD i J=J:=by
   simp only[Array.getD_eq_getD_getElem?,YN (B▸z),UM]at y⊢;exact y
  have M:(λj=>(h.setIfInBounds i Z).getD j J)=upd (λj=>h.getD j J) i:=by
   funext j;unfold upd;simp only[Array.getD_eq_getD_getElem?,Array.getElem?_setIfInBounds];by_cases E:i=j
   .subst E;simp[B,z]
   .have:(j==i)=J:=(by simp;omega);rw[XB E,this,TU]
  refine RQ ?_ (step i o T _ a w K X F);intro a' w' H;refine ih _ a' w' (by simp[B]) ?_ (by rw[M];exact H);have A5:(List.range ops.size).countP (λj=> !(h.setIfInBounds i Z).getD j J)<(List.range ops.size).countP (λj=> !h.getD j J):=by
   have e:∀j,(h.setIfInBounds i Z).getD j J=upd (λj=>h.getD j J) i j:=λj=>congrFun M j
   simp only[e];refine countP_lt i (YU.2 z) ?_ ?_ ?_
   .simp[upd]
   .simp[K]
   .intro j E;simp[upd]at E⊢;exact E.2
  omega
where
 countP_lt {l:List Nat} {p q:Nat->Bool} (i:Nat) (hi:i∈l) (hp:p i=false) (hq:q i=true) (h:∀j,p j=true->q j=true):l.countP p<l.countP q:=by
  induction l with
  |nil=>cases hi
  |cons x l ih=>
   rw[List.countP_cons,List.countP_cons];have Bz:l.countP p<=l.countP q:=List.countP_mono_left λj _=>h j
   rcases XG.1 hi with rfl|hi
   .rw[XB (by rw[hp];simp),YZ hq];omega
   .have:=ih hi;split
    .rename_i hx;rw[YZ (h x hx)];omega
    .split<;>omega
end
section
open Go.Region Go.Proofs.Tryq
section
def FQ:Exit->NV->I->Prop:=λ_ _ _=>False
def PP(R:Exit->NV->I->Prop):Exit->NV->I->Prop:=λe a w=>match e with
 | .normal=>R .normal a w
 |_=>False
def Vm(h:R .normal a w):PP R .normal a w:=h
structure NoX(Q:Exit->NV->I->Prop):Prop where
 pan:∀c a w,¬Q (.panic c) a w
 out:¬LetsOut Q
def noFQ:NoX FQ:=⟨λ_ _ _ h=>h,fun⟨_,_,h⟩=>h⟩
def noN:NoX (PP R):=⟨λ_ _ _ h=>h,fun⟨_,_,h⟩=>h⟩
def anyE(P:NO)(ops:Array Oper)(R:Exit->NV->I->Prop)(t:Nat):Nat->Array Bool->NV->I->Prop
 |0,listed,a,w=>Region.ready .any ops listed=[]/\∀W,Ext w W->R .normal a W
 |n+1,listed,a,w=>∀W,Ext w W->(Region.ready .any ops listed=[]->R .normal a W)/\∀i∈Region.ready .any ops listed,
   (i<t->wpOp P ops FQ i (λa' e=>Ext W e/\anyE P ops R t n (listed.setIfInBounds i Z) a' e) a W)/\(t<=i->wpOp P ops FQ i (wpAny P .any ops (PP R) n (listed.setIfInBounds i Z)) a W)
def anyE.ext{n:Nat}{l:Array Bool}(h:anyE P ops R t n l a w)(e:Ext w W):anyE P ops R t n l a W:=by
 cases n with|zero=>exact⟨h.1,λy g=>h.2 y (e.trans g)⟩|succ n=>exact λy g=>h y (e.trans g)
def wp_FQ{Q:Exit->NV->I->Prop}(z:NoX Q){o:Oper}{a:NV}{w:I}{K B:NV->I->Prop}(y:∀a w,K a w->B a w)(h:o.wp P a w K Q):o.wp P a w B R:=by
 unfold Oper.wp at*;generalize (NU a.eval o).run P w=r at*;cases r with
 |ok n w'=>
  cases n<;>simp only[Oper.upon]at h⊢
  case enter f args=>
   refine Calls.mono h λe w'' g=> ?_
   cases e with|returned u=>exact y _ _ g|panicked c=>exact(z.pan _ _ _ g).elim|outgrown=>exact(z.out g).elim
  case row row args=>exact Rows.mono h λu w'' g=>y _ _ g
  all_goals exact y _ _ h
 |halt x w'=>
  cases x<;>simp only[Oper.upon]at h⊢
  case panic u=>exact(z.pan _ _ _ h).elim
def OZ{Q:Exit->NV->I->Prop}(g:NoX Q){i:Nat}{a:NV}{w:I}{K n:NV->I->Prop}(e:∀a w,K a w->n a w)(h:wpOp P ops Q i K a w):wpOp P ops R i n a w:=by
 unfold wpOp at*;split
 .rename_i ho;simp only[ho]at h;exact e _ _ h
 .rename_i o ho;simp only[ho]at h;split
  .rename_i hw;simp only[hw,XY]at h;rcases h with h|⟨_,h⟩
   .exact .inl (wp_FQ g e h)
   .exact(g.out h).elim
  .rename_i hw;simp only[hw]at h;exact e _ _ h
def wpAny_only:∀(n:Nat)(l:Array Bool)(a:NV)(w:I),wpAny P .any ops (PP R) n l a w->wpAny P .any ops R n l a w
 |0,_,_,_,h=>h
 |n+1,_,_,_,h=>⟨h.1,λi hi=>OZ noN (λa' w' e=>wpAny_only n _ a' w' e) (h.2 i hi)⟩
def wpAny_of_E:∀(n:Nat)(l:Array Bool)(a:NV)(w:I),anyE P ops R t n l a w->wpAny P .any ops R n l a w
 |0,_,_,w,h=>⟨h.1,h.2 w (Ext.rfl' w)⟩
 |n+1,_,_,w,h=>⟨λg=>(h w (Ext.rfl' w)).1 g,λi hi=>by
   rcases VC i t with ht|ht
   .exact OZ noFQ (λa' w' e=>wpAny_of_E n _ a' w' e.2) (((h w (Ext.rfl' w)).2 i hi).1 ht)
   .exact OZ noFQ (λa' w' e=>wpAny_only n _ a' w' e) (((h w (Ext.rfl' w)).2 i hi).2 ht)⟩
def YV(P:NO)(o:Oper)(a:NV)(W:I)(v:NM):Prop:=match (NU a.eval o).run P W with
 | .ok (.value u) W'=>u=v/\Ext W W'
 | .ok .skip W'=>v=NQ/\Ext W W'
 | .ok (.enter f args) W'=>Ext W W'/\NW P f args W' (OI v W)
 |_=>False
def YE(P:NO)(ops:Array Oper)(w:I)(o:Oper)(v:NM)(a:NV):Prop:=
 (Region.wanted o (yielded ops a.tmps)=Z/\∀W,Ext w W->YV P o a W v)\/(Region.wanted o (yielded ops a.tmps)=J/\v=NQ)
def YE.ext(h:YE P ops w o v a)(e:Ext w W):YE P ops W o v a:=
 h.imp (λh=>⟨h.1,λg n=>h.2 g (e.trans n)⟩) id
def YE.same(g:YE P ops w o v a)(h:NU a'.eval o=NU a.eval o)
 (e:Region.wanted o (yielded ops a'.tmps)=Region.wanted o (yielded ops a.tmps)):YE P ops w o v a':=by
 unfold YE YV at*;rw[h,e];exact g
def YE.wpOp{i:Nat}{o:Oper}{v:NM}{a:NV}{w W:I}(hi:ops[i]? =U o)(F:YE P ops w o v a)(C:Ext w W){K:NV->I->Prop}{R:Exit->NV->I->Prop}(h:∀B,Ext W B->K (a.put o.dst v) B):wpOp P ops R i K a W:=by
 unfold Go.wpOp;simp only[hi];rcases F with⟨z,E⟩|⟨z,rfl⟩
 .simp only[z,XY];refine .inl ?_;have g:=E W C;unfold YV at g;unfold Oper.wp;generalize (NU a.eval o).run P W=r at*;cases r with
  |ok n w'=>
   cases n<;>simp only at g<;>simp only[Oper.upon]
   case value u=>obtain⟨rfl,e⟩:=g;exact h _ e
   case skip=>obtain⟨rfl,e⟩:=g;exact h _ e
   case enter f args=>exact g.2.mono λe w'' ⟨H,y⟩=>by subst H;exact h _ y
  |halt x w'=>simp only at g
 .simp only[z,YR,VF];exact h _ (Ext.rfl' _)
def LQ{g:Oper}(H:ops[j]? =U g)(F:oi.apart ops g=Z)(B:∀L b,g.op≠.select L b){K:NV->I->Prop}{a:NV}{W:I}
 (h:wpOp P ops FQ j K (a.put oi.dst v) W):wpOp P ops FQ j (λa' w'=>(∃u d,a'={a with defers:=d}.put g.dst u)/\K (a'.put oi.dst v) w') a W:=by
 obtain⟨C,y,_⟩:=QO F;unfold wpOp at*;simp only[H]at*;rw[wanted_put g a oi.dst v C]at h;split
 .rename_i hw;simp only[hw,XY]at h;rcases h with h|⟨_,_,_,E⟩
  case inr=>exact E.elim
  refine .inl ?_;unfold Oper.wp at*;rw[execOp_put g B a oi.dst v C]at h;generalize (NU a.eval g).run P W=r at*;cases r with
  |ok n w'=>
   cases n<;>simp only[Oper.upon]at h⊢
   case value u=>exact⟨⟨u,a.defers,rfl⟩,by rw[<-TJ a v u y];exact h⟩
   case skip=>exact⟨⟨NQ,a.defers,rfl⟩,by rw[<-TJ a v NQ y];exact h⟩
   case defer d=>
    refine⟨⟨NQ,d::a.defers,rfl⟩,?_⟩;rw[<-TJ _ v NQ y,<-Act.put_defers];exact h
   case enter f args=>
    refine Calls.mono h λe w'' z=> ?_
    cases e with|returned u=>exact⟨⟨u,a.defers,rfl⟩,by rw[<-TJ a v u y];exact z⟩|panicked c=>exact z.elim|outgrown=>obtain⟨_,_,h⟩:=z;exact h.elim
   case row row args=>exact Rows.mono h λu w'' z=>⟨⟨u,a.defers,rfl⟩,by rw[<-TJ a v u y];exact z⟩
  |halt x w'=>
   cases x<;>simp only[Oper.upon]at h⊢
   case panic u=>exact h.elim
 .rename_i hw;simp only[hw]at h;exact⟨⟨NQ,a.defers,rfl⟩,by rw[<-TJ a v NQ y];exact h⟩
def kX{g:Oper}(L:ops[j]? =U g)(H:oi.apart ops g=Z)(C:∀M b,g.op≠.select M b){K:NV->I->Prop}{a:NV}{W:I}
 (h:wpOp P ops FQ j K a W):wpOp P ops FQ j (λa' w'=>∃z,a'=z.put oi.dst v/\K z w') (a.put oi.dst v) W:=by
 obtain⟨E,y,_⟩:=QO H;unfold wpOp at*;simp only[L]at*;rw[wanted_put g a oi.dst v E];split
 .rename_i hw;simp only[hw,XY]at h;rcases h with h|⟨_,_,_,F⟩
  case inr=>exact F.elim
  refine .inl ?_;unfold Oper.wp at*;rw[execOp_put g C a oi.dst v E];generalize (NU a.eval g).run P W=r at*;cases r with
  |ok n w'=>
   cases n<;>simp only[Oper.upon]at h⊢
   case value u=>exact⟨_,TJ a v u y,h⟩
   case skip=>exact⟨_,TJ a v NQ y,h⟩
   case defer d=>exact⟨_,by rw[<-TJ _ v NQ y];exact RJ (λb:NV=>b.put g.dst NQ) (Act.put_defers ..),h⟩
   case enter f args=>
    refine Calls.mono h λe w'' B=> ?_
    cases e with|returned u=>exact⟨_,TJ a v u y,B⟩|panicked c=>exact B.elim|outgrown=>obtain⟨_,_,h⟩:=B;exact h.elim
   case row row args=>exact Rows.mono h λu w'' B=>⟨_,TJ a v u y,B⟩
  |halt x w'=>
   cases x<;>simp only[Oper.upon]at h⊢
   case panic u=>exact h.elim
 .rename_i hw;simp only[hw]at h;exact⟨_,TJ a v NQ y,h⟩
def YE.kept{e:Oper}{d:List Deferred}(h:oi.apart ops e=Z)(y:∀g b,oi.op≠.select g b)(n:YE P ops w oi v a):YE P ops w oi v ({a with defers:=d}.put e.dst u):=by
 obtain⟨_,_,g⟩:=QO h;exact YE.same (YE.same n rfl rfl:YE P ops w oi v {a with defers:=d}) (execOp_put oi y _ e.dst u g) (wanted_put oi _ e.dst u g)
def Hi(ops:Array Oper)(t i:Nat):Bool:=(List.range ops.size).all λj=>decide (j<t)||match ops[j]? with|some o=>(ahead o).contains i|none=>Z
def JV(h:i∈ahead o):∃e∈o.after,Region.binds .any e=Z/\e.on=i:=by
 unfold ahead at h;obtain⟨e,g,rfl⟩:=VW.1 h;obtain⟨y,n⟩:=UO.1 g;exact⟨e,by simpa using y,n,rfl⟩
def fQ{g:Array Bool}(B:Hi ops t i=Z)(hi:i∈Region.ready .any ops g)(z:j∈Region.ready .any ops g):j<t:=by
 rcases VC j t with h|h
 .exact h
 .obtain⟨_,oj,Ce,Au⟩:=UL.1 z;have h1:=YL.1 B j (YU.2 (YF.1 Ce).1);rw[Ce]at h1;simp only[UF,XE]at h1;rcases h1 with h1|h1
  .omega
  .obtain⟨e,he,hb,hon⟩:=JV (by simpa using h1);have n:=Au e he hb;rw[hon]at n;have y:=(UL.1 hi).1;rcases VC i g.size with h'|h'
   .simp[h']at n y;rw[n]at y;cases y
   .simp[Array.getElem?_eq_none h']at n
def Mq(o:Oper):Bool:=match o.op with
 | .move _| .assign _| .extract .. =>Z
 |_=>J
def eN{x:NM}(h:(Instr.extract x k).run P w= .ok v w'):∀W,(Instr.extract x k).run P W= .ok v W:=by
 intro W;unfold Instr.extract at h⊢;cases x<;>simp only at h⊢<;>try (simp[stuck]at h;done)
 rename_i e;cases hv:e[k]? with
 |none=>rw[hv]at h;simp[stuck]at h
 |some u=>rw[hv]at h;simp at h⊢;exact h.1
def pB(g:Mq o=Z){e:Operand->NM}{w w':I}{v:NM}(h:(NU e o).run P w= .ok (.value v) w'):∀W,(NU e o).run P W= .ok (.value v) W:=by
 intro W;unfold Mq at g;unfold NU at h⊢;split at g<;>rename_i y<;>simp only[y]at h⊢
 .simp at h⊢;exact h.1
 .simp at h⊢;exact h.1
 .rw[UH]at h⊢;cases hr:(Instr.extract (e _) _).run P w with
  |ok u n=>
   rw[hr]at h;rw[eN hr W];simp[Result.andThen]at h⊢;exact h.1
  |halt x n=>rw[hr]at h;simp[Result.andThen]at h
 .cases g
def IC(ops:Array Oper)(t i:Nat):Bool:=Hi ops t i||match ops[i]? with|some o=>Mq o|none=>J
def YE.yields(g:Mq o=Z)(z:YE P ops w o v a):Yields P ops o v a:=by
 refine z.imp (λh=>⟨h.1,?_⟩) id;have e:=h.2 w (Ext.rfl' w);unfold YV at e;cases hr:(NU a.eval o).run P w with
 |ok n w'=>
  rw[hr]at e;cases n<;>simp only at e
  case value u=>obtain⟨rfl,_⟩:=e;exact pB g hr
  all_goals
   exfalso;unfold Mq at g;unfold NU at hr;split at g<;>rename_i y<;>simp only[y]at hr
   .simp at hr
   .simp at hr
   .exact(by
     rw[UH]at hr;generalize (Instr.extract _ _).run P w=r at hr;cases r<;>simp[Result.andThen]at hr)
   .cases g
 |halt x w'=>rw[hr]at e;simp only at e
def JW{g:Array Bool}{j:Nat}{y:Oper}(hi:g.getD i Z=J)(z:∀e∈y.after,Region.binds .any e=Z->g.getD e.on J=Z):∀e∈y.after,Region.binds .any e=Z->e.on≠i:=λe B C n=>by
 have h:=z e B C;rw[n]at h;rcases VC i g.size with h'|h'
 .simp[h']at hi h;rw[hi]at h;cases h
 .simp[Array.getElem?_eq_none h']at h
def dW(hi:ops[i]? =U oi)(M:∀(j:Nat)(o:Oper) B b,ops[j]? =U o->o.op≠.select B b)(X:IC ops t i=Z)(hit:i<t):
 ∀(n:Nat)(g:Array Bool)(a:NV)(w:I),
  (∀j K,ops[j]? =U K->j≠i->g.getD j Z=J->(∀e∈K.after,Region.binds .any e=Z->e.on≠i)->oi.apart ops K=Z)->
  i∈Region.ready .any ops g->YE P ops w oi v a->anyE P ops R t n (g.setIfInBounds i Z) (a.put oi.dst v) w->anyE P ops R t (n+1) g a w:=by
 intro n
 induction n with
 |zero=>
  intro g a w _ C T H W E;refine⟨λh=>(by rw[h]at C;cases C),λj L=> ?_⟩;by_cases z:j=i
  .subst z;exact⟨λ_=>T.wpOp hi E λW' y=>⟨y,H.ext (E.trans y)⟩,λh=>by omega⟩
  .have:=UV L z;rw[H.1]at this;cases this
 |succ n ih=>
  intro g a w D2 C T H W E;refine⟨λh=>(by rw[h]at C;cases C),λj L=> ?_⟩;by_cases z:j=i
  .subst z;exact⟨λ_=>T.wpOp hi E λW' y=>⟨y,H.ext (E.trans y)⟩,λh=>by omega⟩
  .obtain⟨Ec,K,Ce,Au⟩:=UL.1 L;have V:=D2 j K Ce z Ec (JW (j:=j) (UL.1 C).1 Au)
   have Ed:∀k O,ops[k]? =U O->k≠i->(g.setIfInBounds j Z).getD k Z=J->
    (∀e∈O.after,Region.binds .any e=Z->e.on≠i)->oi.apart ops O=Z:=λk O hk Hb Je Co=>by
    refine D2 k O hk Hb ?_ Co;by_cases Iu:j=k
    .subst Iu;exact Ec
    .rw[TX Z Iu]at Je;exact Je
   refine⟨λF=> ?_,λF=> ?_⟩
   .have Y:=((H W E).2 j (UV L z)).1 F;refine RQ (λa' w' h3=> ?_) (LQ Ce V (λB b=>M j K B b Ce) Y);obtain⟨⟨u,d,rfl⟩,h4,h5⟩:=h3;refine⟨h4,ih (g.setIfInBounds j Z) _ w' Ed (UV C (SJ z)) (YE.kept V (λB b=>M i oi B b hi) (T.ext (E.trans h4))) ?_⟩;rw[UP _ _ z];exact h5
   .have Dj:Mq oi=Z:=by
     unfold IC at X;rw[UF]at X;rcases X with h|h
     .have:=fQ h C L;omega
     .rw[hi]at h;exact h
    have Y:=((H W E).2 j (UV L z)).2 F;refine RQ (λa' w' h3=> ?_) (LQ Ce V (λB b=>M j K B b Ce) Y);obtain⟨⟨u,d,rfl⟩,h5⟩:=h3;refine wpAny_first hi M (λc a w h=>h.elim) n _ _ w' Ed (UV C (SJ z)) (YE.yields Dj (YE.kept V (λB b=>M i oi B b hi) T)) ?_;rw[UP _ _ z];exact h5
def mark(n:Nat):List Nat->Array Bool
 |[]=>Array.replicate n J
 |k::l=>(mark n l).setIfInBounds k Z
def me(n:Nat)(l:List Nat):(mark n l).size=n:=by
 induction l with|nil=>simp[mark]|cons k l e=>simp[mark,e]
def LX(P:NO)(ops:Array Oper)(R:Exit->NV->I->Prop)(t:Nat)(l:List Nat)(a:NV)(w:I):Prop:=anyE P ops R t (ops.size - l.length) (mark ops.size l) a w
variable {l:List Nat}
def okT(ops:Array Oper)(e:Nat):Bool:=Region.noSelect ops
def Q4(ops:Array Oper)(t:Nat)(l:List Nat)(k:Nat):Bool:=decide (k<t)&&decide (l.length<ops.size)&&(Region.ready .any ops (mark ops.size l)).contains k&&Region.free .any ops (mark ops.size l) k&&IC ops t k
def cT(g:okT ops t=Z)(hi:ops[k]? =U o)(e:Q4 ops t l k=Z)(n:YE P ops w o v a)(h:LX P ops R t (k::l) (a.put o.dst v) w):LX P ops R t l a w:=by
 unfold okT at g;unfold Q4 at e;simp only[YG,XE]at e;obtain⟨⟨⟨⟨z,_⟩,C⟩,y⟩,B⟩:=e;unfold LX at*;rw[show ops.size - l.length=(ops.size - (k::l).length)+1 by simp only[YP];omega];exact dW hi (RE g) B z _ _ a w (Region.free_spec hi y) (by simpa using C) n h
def Z4(k:Nat){o:Oper}{v:NM}{a:NV}{w:I}{f:NS}{args:Array NM}(z:okT ops t=Z)(hi:ops[k]? =U o)(g:Q4 ops t l k=Z)(e:Region.wanted o (yielded ops a.tmps)=Z)
 (y:∀W,(NU a.eval o).run P W= .ok (.enter f args) W)(B:∀W,Ext w W->NW P f args W (OI v W))(h:LX P ops R t (k::l) (a.put o.dst v) w):LX P ops R t l a w:=
 cT z hi g (.inl ⟨e,λW n=>by unfold YV;rw[y W];exact⟨Ext.rfl' W,B W n⟩⟩) h
def Yu(k:Nat){o:Oper}{a:NV}{w:I}(hi:ops[k]? =U o)(g:(decide (k<t)&&decide (l.length<ops.size)&&Region.ready .any ops (mark ops.size l)==[k])=Z)(y:Region.wanted o (yielded ops a.tmps)=Z)
 (h:∀W,Ext w W->o.wp P a W (λa' n=>Ext W n/\LX P ops R t (k::l) a' n) FQ):LX P ops R t l a w:=by
 simp only[YG,XE,XU]at g;unfold LX at*;rw[show ops.size - l.length=(ops.size - (k::l).length)+1 by simp only[YP];omega];refine λW z=>⟨λB=>(by rw[B]at g;cases g.2),λi e=> ?_⟩
 rw[g.2]at e;obtain rfl:i=k:=by simpa using e
 refine⟨λ_=> ?_,λh=>by omega⟩;unfold wpOp;simp only[hi,y,XY];exact .inl (h W z)
def Yd{K:NV->I->Prop}(n:(NU a.eval o).run P W= .ok (.enter f args) W)(y:NW P f args W λe g=>∃v,e= .returned v/\K (a.put o.dst v) g):o.wp P a W K FQ:=by
 unfold Oper.wp;rw[n,Oper.upon_enter];refine y.mono ?_;rintro e g ⟨v,rfl,h⟩;exact h
def Ye{K:NV->I->Prop}(h:∃v e,(NU a.eval o).run P W= .ok (.value v) e/\K (a.put o.dst v) e):o.wp P a W K FQ:=by
 obtain⟨v,e,e,h⟩:=h;unfold Oper.wp;rw[e,QN];exact h
def Yt(e:(ops.size==l.length&&(Region.ready .any ops (mark ops.size l)).isEmpty)=Z)(h:∀W,Ext w W->R .normal a W):LX P ops R t l a w:=by
 rw[YG,XU,QF]at e;unfold LX;rw[show ops.size - l.length=0 by omega];exact⟨e.2,h⟩
def Nd(ops:Array Oper):Nat->Nat->List Nat->Bool
 |0,k,l=>(Region.ready .any ops (mark ops.size l)).isEmpty&&decide (k=ops.size)&&decide (l.length=ops.size)
 |n+1,k,l=>(Region.ready .any ops (mark ops.size l)==[k])&&decide (k<ops.size)&&decide (l.length=k)&&Nd ops n (k+1) (k::l)
def lx_tail_list:∀(n k:Nat)(l:List Nat),Nd ops n k l=Z->∀a w,wpList P ops R (ops.toList.drop k) a w->wpAny P .any ops R (ops.size - l.length) (mark ops.size l) a w:=by
 intro n
 induction n with
 |zero=>
  intro k l g a w h;simp only[Nd,YG,QF,XE]at g;obtain⟨⟨e,y⟩,B⟩:=g;rw[B,Nat.sub_self];rw[y,TR OD]at h;exact⟨e,h⟩
 |succ n L=>
  intro k l g a w h;simp only[Nd,YG,XU,XE]at g;obtain⟨⟨⟨e,y⟩,B⟩,K⟩:=g;have z:=YN y;have E:ops.toList.drop k=ops[k]::ops.toList.drop (k+1):=by rw[VP (by simpa using y),Array.getElem_toList]
  rw[E]at h;rw[show ops.size - l.length=(ops.size - (k::l).length)+1 by simp only[YP];omega];refine⟨λH=>(by rw[H]at e;cases e),λi hi=> ?_⟩;rw[e]at hi;obtain rfl:i=k:=by simpa using hi
  have C:wpOp P ops R i (wpList P ops R (ops.toList.drop (i+1))) a w:=by unfold wpOp;simp only[z];exact h
  exact RQ (λa' w' F=>L (i+1) (i::l) K a' w' F) C
def Vk(n:Nat){a:NV}{w:I}(y:Nd ops n t l=Z)(h:∀W,Ext w W->wpList P ops (PP R) (ops.toList.drop t) a W):LX P ops R t l a w:=by
 unfold LX;cases n with
 |zero=>
  simp only[Nd,YG,QF,XE]at y;obtain⟨⟨e,g⟩,C⟩:=y;rw[C,Nat.sub_self];rw[g,TR OD]at h;exact⟨e,h⟩
 |succ n=>
  simp only[Nd,YG,XU,XE]at y;obtain⟨⟨⟨e,g⟩,C⟩,M⟩:=y;have z:=YN g;have F:ops.toList.drop t=ops[t]::ops.toList.drop (t+1):=by rw[VP (by simpa using g),Array.getElem_toList]
  rw[show ops.size - l.length=(ops.size - (t::l).length)+1 by simp only[YP];omega];intro W H;have B:=h W H;rw[F]at B;refine⟨λL=>(by rw[L]at e;cases e),λi hi=> ?_⟩;rw[e]at hi;obtain rfl:i=t:=by simpa using hi
  refine⟨λh=>by omega,λ_=> ?_⟩;have E:wpOp P ops (PP R) i (wpList P ops (PP R) (ops.toList.drop (i+1))) a W:=by unfold wpOp;simp only[z];exact B
  exact OZ noN (λa' w' K=>lx_tail_list n (i+1) (i::l) M a' w' K) E
def OW(o:Oper):Bool:=match o.op with
 | .move _| .assign _| .pick .. | .load .. | .binOp .. | .unOp .. | .convert .. | .fieldAddr .. | .field .. | .indexAddr .. | .index .. | .slice .. | .extract .. | .lookup .. | .makeFunc .. | .build .. | .makeInterface .. =>Z
 | .call c=>match c.callee with
   | .builtin b=>match b with| .len| .cap| .min| .max=>Z|_=>J
   |_=>J
 |_=>J
def run_v{s:Sem NM}(h:((do pure (Next.value (<-s)):Sem Next)).run P w= .ok (.enter f args) w'):False:=by
 rw[UH]at h;generalize s.run P w=r at h;cases r with
 |ok x e=>simp[Result.andThen]at h
 |halt x e=>simp[Result.andThen]at h
def bO(e:OW o=Z){g:Operand->NM}{w w':I}{f:NS}{args:Array NM}(h:(NU g o).run P w= .ok (.enter f args) w'):False:=by
 unfold OW at e;unfold NU at h;split at e<;>rename_i n<;>simp only[n]at h
 case h_3=>
  rw[UH]at h;generalize (asBool _).run P w=r at h;cases r<;>simp[Result.andThen]at h
 case h_18=>
  split at e
  .rename_i b hc;split at e<;>first|cases e|skip
   all_goals
    simp only[resolve,hc,UH,Sem.run_pure,Result.andThen,invoke,builtin]at h;exact run_v (P:=P) (by rw[UH];exact h)
  .cases e
 case h_19=>cases e
 case h_1=>simp at h
 case h_2=>simp at h
 all_goals exact run_v h
def Jg(ops:Array Oper)(t:Nat):List Nat->List Nat->Bool
 |[],_=>Z
 |k::ks,l=>Q4 ops t l k&&(match ops[k]? with|some o=>OW o|none=>J)&&Jg ops t ks (k::l)
def ZR(ops:List Oper):List Nat->List Oper
 |[]=>[]
 |k::ks=>(match ops[k]? with|some o=>[o]|none=>[])++ZR ops ks
def doneL:List Nat->List Nat->List Nat
 |[],l=>l
 |k::ks,l=>doneL ks (k::l)
def yv_of(g:OW o=Z){a:NV}{C:I->Prop}{W:I}{v:NM}(e:o.quietAt P a C W v):YV P o a W v:=by
 unfold Oper.quietAt at e;unfold YV;cases hr:(NU a.eval o).run P W with
 |ok n w'=>
  rw[hr]at e;cases n<;>simp only[Oper.quietUpon]at e
  case value u=>exact⟨e.2,e.1▸Ext.rfl' _⟩
  case skip=>exact⟨e.2,e.1▸Ext.rfl' _⟩
  case enter f args=>exact(bO g hr).elim
 |halt x w'=>rw[hr]at e;simp only[Oper.quietUpon]at e
def cw(X:List Nat->NV->Prop)(B:Nat->Prop)(M:∀l k o v a,B k->ops[k]? =U o->Q4 ops t l k=Z->YE P ops w o v a->X (k::l) (a.put o.dst v)->X l a):∀(e l:List Nat)(a:NV),(∀k∈e,B k)->Jg ops t e l=Z->wpQuiet P ops (λw'=>∃p:Gr,w'=gr w p.d p.os) (X (doneL e l)) (ZR ops.toList e) a->X l a:=by
 intro e
 induction e with
 |nil=>intro l a _ _ h;exact h
 |cons k e H=>
  intro l a y g h;simp only[Jg,YG]at g;obtain⟨⟨z,n⟩,g⟩:=g;cases hi:ops[k]? with
  |none=>rw[hi]at n;cases n
  |some o=>
   rw[hi]at n;rw[ZR,show ops.toList[k]? =U o by rw[Array.getElem?_toList];exact hi]at h;have F:qOp P ops (λw'=>∃p:Gr,w'=gr w p.d p.os) k (wpQuiet P ops (λw'=>∃p:Gr,w'=gr w p.d p.os) (X (doneL (k::e) l)) (ZR ops.toList e)) a:=by
    unfold qOp;simp only[hi];exact h
   obtain⟨v,K,L⟩:=yieldsIn_of_qOp hi F;exact M l k o v a (y k (YY ..)) hi z (K.imp (λh=>⟨h.1,λW C=>yv_of n (h.2 W (jH C))⟩) id) (H _ _ (λO E=>y O (YW _ E)) g L)
def ZS{o:List Oper}(e:List Nat){a:NV}{w:I}(z:okT o.toArray t=Z)(g:Jg o.toArray t e l=Z)(h:wpQuiet P o.toArray (λw'=>∃p:Gr,w'=gr w p.d p.os) (λa'=>LX P o.toArray R t (doneL e l) a' w) (ZR o e) a):LX P o.toArray R t l a w:=
 cw (X:=λl a=>LX P o.toArray R t l a w) (λ_=>True) (λ_ _ _ _ _ _ hi n y h=>cT z hi n y h) e l a (λ_ _=>trivial) g h
def Z9{id:Nat}(t:Nat)(e:P.follows .mixedOrders=Z)(h:LX P ops R t [] a w):(Code.region id ops Z).wp P R a w:=by
 unfold LX at h;exact wp_region_any e (wpAny_of_E _ _ _ _ (h.ext (Ext.drew (Ext.rfl' w))))
end
section
def subA(A:Nat->Prop)(W e:I):Nat->Prop:=λb=>A b/\¬(W.heap.size<=b/\b<e.heap.size)
def anyF(P:NO)(ops:Array Oper)(R:Exit->NV->I->Prop)(t i d:Nat)(pre:List Nat)(obj:Obj):Nat->Array Bool->NV->I->(Nat->Prop)->Prop
 |0,_,_,_,_=>False
 |n+1,listed,a,w,A=>∀W,Ext w W->
   (∀j∈Region.ready .any ops listed,j≠i->wpOp P ops FQ j (λa' e=>Ext W e/\anyF P ops R t i d pre obj n (listed.setIfInBounds j Z) a' e (subA A W e)) a W)/\
   ((∀m∈pre,listed.getD m J=Z)->∀b,A b->b<W.heap.size->W.heap[b]? =U obj->anyE P ops R t n (listed.setIfInBounds i Z) (a.put (U d) (NI (U ⟨b,0,NB⟩))) W)
variable {d:Nat}
def anyF.mono{n:Nat}{l:Array Bool}(h:anyF P ops R t i d pre obj n l a w A)(e:Ext w W)(B:∀b,A' b->A b):anyF P ops R t i d pre obj n l a W A':=by
 induction n generalizing l a w W A A' with
 |zero=>exact h
 |succ n E=>
  intro M y;obtain⟨L,F⟩:=h M (e.trans y);exact⟨λj H K=>RQ (λa' _ z=>⟨z.1,E z.2 (Ext.rfl' _) λb g=>⟨B b g.1,g.2⟩⟩) (L j H K),λC b g=>F C b (B b g)⟩
def P9(ops:Array Oper)(l:Array Bool):Nat:=(List.range ops.size).countP λj=> !l.getD j J
def IT{l:Array Bool}(h:l.size=ops.size)(g:j<ops.size)(n:l.getD j J=J):P9 ops (l.setIfInBounds j Z)<P9 ops l:=by
 unfold P9;refine dx.countP_lt j (YU.2 g) ?_ ?_ ?_
 .simp[h,g]
 .simp only[n];rfl
 .intro k hk;by_cases e:j=k
  .subst e;simp[h,g]at hk
  .rwa [TX J e]at hk
def CX{l:Array Bool}(h:j≠k)(n:j<ops.size)(g:k<ops.size)(e:l.size=ops.size)(z:l.getD j J=J)(y:l.getD k J=J):2<=P9 ops l:=by
 have B:=IT e n z;have B:=IT (ops:=ops) (l:=l.setIfInBounds j Z) (j:=k) (by simpa using e) g (by rw[TX J h];exact y);omega
def okF(ops:Array Oper)(t i:Nat)(pre:List Nat):Bool:=Region.noSelect ops&&Hi ops t i&&LN ops&&decide (i<t)&&decide (i<ops.size)&&(pre.all λm=>decide (m<ops.size)&&m !=i)&&
 (List.range ops.size).all λj=>j==i||match ops[i]?,ops[j]? with
   |some oi,U oj=>if(ahead oj).contains i then pre.all λm=>(ahead oj).contains m else oi.apart ops oj
   |_,_=>J
structure OkF(ops:Array Oper)(t i:Nat)(pre:List Nat)(oi:Oper):Prop where
 hi:ops[i]? =U oi
 sel:∀(j:Nat)(o:Oper) cs b,ops[j]? =U o->o.op≠.select cs b
 sink:Hi ops t i=Z
 eld:LN ops=Z
 lt:i<t
 dep:∀(j:Nat)(oj:Oper),ops[j]? =U oj->i∈ahead oj->j≠i->∀m,m∈pre->m∈ahead oj
 pres:∀m∈pre,m<ops.size/\m≠i
 free:∀(j:Nat)(oj:Oper),ops[j]? =U oj->j≠i->¬i∈ahead oj->oi.apart ops oj=Z
def pX(hi:ops[i]? =U oi)(h:okF ops t i pre=Z):OkF ops t i pre oi:=by
 unfold okF at h;simp only[YG,XE]at h;obtain⟨⟨⟨⟨⟨⟨F,B⟩,H⟩,E⟩,_⟩,C⟩,z⟩:=h;have n:∀(j:Nat)(e:Oper),ops[j]? =U e->j≠i->(if(ahead e).contains i then pre.all λm=>(ahead e).contains m else oi.apart ops e)=Z:=by
  intro j e g y;have:=YL.1 z j (YU.2 (YF.1 g).1);rw[hi,g]at this;simpa[y]using this
 refine⟨hi,RE F,B,H,E,λj e g B y m z=> ?_,λm z=>by have:=YL.1 C m z;simpa using this,λj e g y B=> ?_⟩
 .have:=n j e g y;rw[YZ (by simpa using B)]at this;simpa using YL.1 this m z
 .have:=n j e g y
  rwa [XB (by simpa using B)]at this
def bI{g:Array Bool}{n:Oper}(B:ops[j]? =U n)(C:j∈Region.ready .any ops g)(z:m∈ahead n):g.getD m J=Z:=by
 obtain⟨_,o,h,y⟩:=UL.1 C;rw[B]at h;cases h;obtain⟨e,E,F,rfl⟩:=JV z;exact y e E F
def kI{e:Edge}(g:e∈o.after)(h:Region.binds .any e=Z):e.on∈ahead o:=by
 unfold ahead;exact VW.2 ⟨e,UO.2 ⟨by simpa using g,h⟩,rfl⟩
def JP{l:Array Bool}(e:j<l.size):l.getD j Z=l.getD j J:=by simp[e]
def ef(g:OkF ops t i pre oi)(hd:oi.dst=U d):∀(n:Nat)(listed:Array Bool)(a:NV)(w:I)(A:Nat->Prop),listed.size=ops.size->listed.getD i J=J->P9 ops listed<=n+1->
 anyF P ops R t i d pre obj (n+1) listed a w A->∀b,A b->b<w.heap.size->w.heap[b]? =U obj->anyE P ops R t n (listed.setIfInBounds i Z) (a.put (U d) (NI (U ⟨b,0,NB⟩))) w:=by
 have Jf:i<ops.size:=(YF.1 g.hi).1;intro n
 induction n with
 |zero=>
  intro listed a w A B X hc h b F H E;refine(h w (Ext.rfl' w)).2 (λm K=> ?_) b F H E;cases h9:listed.getD m J with
  |true=>rfl
  |false=>
   have:=CX (ops:=ops) (j:=m) (k:=i) (g.pres m K).2 (g.pres m K).1 Jf B h9 X;omega
 |succ n ih=>
  intro listed a w A B X hc h b F H E;by_cases Au:∀m∈pre,listed.getD m J=Z
  .exact(h w (Ext.rfl' w)).2 Au b F H E
  .obtain⟨y,Cg,hu0⟩:∃y,y∈pre/\listed.getD y J=J:=by
    apply VQ;intro hn;refine Au λm K=> ?_
    cases h9:listed.getD m J with|true=>rfl|false=>exact absurd ⟨m,K,h9⟩ hn
   have a0:=(g.pres y Cg).2;have a1:=(g.pres y Cg).1;intro W O;refine⟨λh0=> ?_,λj hj=> ?_⟩
   .have:=IU g.eld (listed:=listed.setIfInBounds i Z) (by simpa using B) h0 y OA;rw[TX J OA,hu0]at this;cases this
   .obtain⟨Rp,oj,Ce,Kg⟩:=UL.1 hj;have L:j<ops.size:=(YF.1 Ce).1;have C:j≠i:=by
     rintro rfl;simp[B,L]at Rp
    have Ec:listed.getD j Z=J:=(by rwa [TX Z (SJ C)]at Rp);have z:¬i∈ahead oj:=by
     intro hw;have h1:=bI Ce hj (g.dep j oj Ce hw C y Cg);rw[TX J OA,hu0]at h1;cases h1
    have Nh:j∈Region.ready .any ops listed:=by
     refine UL.2 ⟨Ec,oj,Ce,λe he Jy=> ?_⟩;have h1:=Kg e he Jy
     rwa [TX J (λh=>z (by rw[h];exact kI he Jy))]at h1
    refine⟨λ_=> ?_,λ_=> ?_⟩
    .have h1:=(h W O).1 j Nh C;have De:=g.free j oj Ce C z;have Y:=kX (oi:=oi) (v:= NI (U ⟨b,0,NB⟩)) Ce De (λcs b=>g.sel j oj cs b Ce) h1;rw[hd]at Y;refine RQ (λa' W' h'=> ?_) Y;obtain⟨M,rfl,V,hF⟩:=h';refine⟨V,?_⟩;rw[<-UP _ _ C];have T:b<W.heap.size:=O.lt H;refine ih (listed.setIfInBounds j Z) M W' (subA A W W') (by simpa using B) (by rw[TX J C];exact X) ?_ hF b ⟨F,λh=>by omega⟩ (V.lt T) (V.get (O.get E));have:=IT (ops:=ops) B L (by rw[<-JP OA];exact Ec);omega
    .have h1:=YL.1 g.sink j (YU.2 L);rw[Ce]at h1;simp only[UF,XE]at h1;rcases h1 with h1|h1
     .omega
     .exact absurd (by simpa using h1) z
def nH(g:OkF ops t i pre oi)(F:oi.dst=U d)(X:oi.guard=NB)(Y:∀(a:NV) W,(NU a.eval oi).run P W= .ok (.value (NI (U W.heap.size))) (W.alloc obj)):∀(n:Nat)(e:Array Bool)(a:NV)(w:I)(A:Nat->Prop),e.size=ops.size->e.getD i J=J->P9 ops e<=n+1->
 (∀b,w.heap.size<=b->A b)->anyF P ops R t i d pre obj (n+1) e a w A->anyE P ops R t (n+1) e a w:=by
 have O:i<ops.size:=(YF.1 g.hi).1;intro n
 induction n with
 |zero=>
  intro e a w A z y T K h W B;refine⟨λL=> ?_,λj E=> ?_⟩
  .rw[IU g.eld z L i O]at y;cases y
  .obtain⟨Rp,oj,Ce,Kg⟩:=UL.1 E;have H:j<ops.size:=(YF.1 Ce).1;by_cases C:j=i
   .subst C;refine⟨λ_=> ?_,λh=>absurd g.lt OA⟩;unfold wpOp;rw[g.hi]at Ce;cases Ce;simp only[g.hi,Region.wanted,X,XY];refine .inl ?_;unfold Oper.wp;rw[Y,QN,F];refine⟨(Ext.rfl' W).alloc _,?_⟩;exact ef g F 0 e a (W.alloc obj) A z y T (h.mono (B.alloc _) λ_ h=>h) W.heap.size (K _ B.size) (by rw[Z2];omega) ((Z3 _ _ _).trans (YZ rfl))
   .have:=CX (ops:=ops) (j:=j) (k:=i) C H O z (by rw[<-JP OA];exact Rp) y;omega
 |succ n ih=>
  intro e a w A z y T K h W B;refine⟨λL=> ?_,λj E=> ?_⟩
  .rw[IU g.eld z L i O]at y;cases y
  .obtain⟨Rp,oj,Ce,Kg⟩:=UL.1 E;have H:j<ops.size:=(YF.1 Ce).1;by_cases C:j=i
   .subst C;refine⟨λ_=> ?_,λh=>absurd g.lt OA⟩;unfold wpOp;rw[g.hi]at Ce;cases Ce;simp only[g.hi,Region.wanted,X,XY];refine .inl ?_;unfold Oper.wp;rw[Y,QN,F];refine⟨(Ext.rfl' W).alloc _,?_⟩;exact ef g F (n+1) e a (W.alloc obj) A z y T (h.mono (B.alloc _) λ_ h=>h) W.heap.size (K _ B.size) (by rw[Z2];omega) ((Z3 _ _ _).trans (YZ rfl))
   .refine⟨λ_=> ?_,λ_=> ?_⟩
    .refine RQ (λa' W' M=>⟨M.1,ih (e.setIfInBounds j Z) a' W' (subA A W W') (by simpa using z) (by rw[TX J C];exact y) ?_ (λb _=>⟨K b ?_,λh=>by omega⟩) M.2⟩) ((h W B).1 j E C)
     .have:=IT (ops:=ops) z H (by rw[<-JP OA];exact Rp);omega
     .have h1:=B.size;have V:=M.1.size;omega
    .have h1:=YL.1 g.sink j (YU.2 H);rw[Ce]at h1;simp only[UF,XE]at h1;rcases h1 with h1|h1
     .omega
     .have V:=bI Ce E (by simpa using h1);rw[V]at y;cases y
def qQ(L:ops[q]? =U oq)(Nb:ops[i]? =U oi)(hd:oi.dst=U d)(K:∀(j:Nat)(o:Oper) z b,ops[j]? =U o->o.op≠.select z b)(Id:q≠i)(Th:oq.apart ops oi=Z)(hg:IC ops t q=Z)(V:q<t):
 ∀(n:Nat)(g:Array Bool)(a:NV)(w:I)(A:Nat->Prop),
  (∀j C,ops[j]? =U C->j≠q->g.getD j Z=J->(∀e∈C.after,Region.binds .any e=Z->e.on≠q)->oq.apart ops C=Z)->
  q∈Region.ready .any ops g->YE P ops w oq v a->anyF P ops R t i d pre obj n (g.setIfInBounds q Z) (a.put oq.dst v) w A->anyF P ops R t i d pre obj (n+1) g a w A:=by
 intro n
 induction n with
 |zero=>intro _ _ _ _ _ _ _ h;exact h.elim
 |succ n ih=>
  intro g a w A D2 hr Y H W B
  have Gb:∀{j:Nat},(∀k E,ops[k]? =U E->k≠q->(g.setIfInBounds j Z).getD k Z=J->
   (∀e∈E.after,Region.binds .any e=Z->e.on≠q)->oq.apart ops E=Z):=fun{j} k E hk Hb M Co=>by
   refine D2 k E hk Hb ?_ Co;by_cases Iu:j=k
   .subst Iu;rcases VC j g.size with h'|h'
    .simp[h']at M
    .simp[Array.getElem?_eq_none h']at M
   .rw[TX Z Iu]at M;exact M
  refine⟨λj hj Az=> ?_,λAu b T C5 Ai=> ?_⟩
  .by_cases Ti:j=q
   .subst Ti;exact Y.wpOp L B λ_ F=>⟨F,H.mono (B.trans F) λb T=>T.1⟩
   .have h1:=(H W B).1 j (UV hj Ti) Az;obtain⟨Ec,C,X,Au⟩:=UL.1 hj;have De:=D2 j C X Ti Ec (JW (j:=j) (UL.1 hr).1 Au);refine RQ (λa' w' O=> ?_) (LQ X De (λz b=>K j C z b X) h1);obtain⟨⟨u,d,rfl⟩,h4,h5⟩:=O;refine⟨h4,ih (g.setIfInBounds j Z) _ w' _ Gb (UV hr (SJ Ti)) (YE.kept De (λz b=>K q oq z b L) (Y.ext (B.trans h4))) ?_⟩;rw[UP _ _ Ti];exact h5
  .have h1:=(H W B).2 (λm hm=>getD_set_true (Au m hm)) b T C5 Ai;have h2:(a.put (U d) (NI (U b)))=({a with defers:=a.defers}.put oi.dst (NI (U b))):=by rw[hd]
   refine dW L K hg V n _ _ W Gb (UV hr Id) (by rw[h2];exact YE.kept Th (λz b=>K q oq z b L) (Y.ext B)) ?_;rw[UP _ _ (SJ Id)];have O:=TJ a (x:=oq.dst) (y:=oi.dst) v (NI (U ⟨b,0,NB⟩)) (QO Th).2.1;rw[hd]at O;rw[<-O];exact h1
def M0(ops:Array Oper)(k i:Nat):Bool:=k !=i&&match ops[k]?,ops[i]? with|some o,U oi=>o.apart ops oi|_,_=>J
def LXF(P:NO)(ops:Array Oper)(R:Exit->NV->I->Prop)(t i d:Nat)(pre:List Nat)(obj:Obj)(l:List Nat)(a:NV)(w:I)(A:Nat->Prop):Prop:=anyF P ops R t i d pre obj (ops.size - l.length) (mark ops.size l) a w A
variable {l:List Nat}
def dG(y:okT ops t=Z)(n:ops[i]? =U oi)(z:oi.dst=U d)(e:M0 ops k i=Z)(hi:ops[k]? =U o)(g:Q4 ops t l k=Z)(B:YE P ops w o v a)(h:LXF P ops R t i d pre obj (k::l) (a.put o.dst v) w A):LXF P ops R t i d pre obj l a w A:=by
 unfold okT at y;unfold Q4 at g;simp only[YG,XE]at g;obtain⟨⟨⟨⟨E,_⟩,H⟩,C⟩,F⟩:=g;unfold LXF at*;rw[show ops.size - l.length=(ops.size - (k::l).length)+1 by simp only[YP];omega];unfold M0 at e;rw[hi,n]at e;simp only[YG,bne_iff_ne]at e;exact qQ hi n z (RE y) e.1 e.2 F E _ _ a w A (Region.free_spec hi C) (by simpa using H) B h
def Mf(k:Nat){o oi:Oper}{v:NM}{a:NV}{w:I}{A:Nat->Prop}{f:NS}{args:Array NM}(e:(okT ops t&&M0 ops k i)=Z)(C:ops[i]? =U oi)(g:oi.dst=U d)(hi:ops[k]? =U o)(y:Q4 ops t l k=Z)(n:Region.wanted o (yielded ops a.tmps)=Z)
 (B:∀W,(NU a.eval o).run P W= .ok (.enter f args) W)(E:∀W,Ext w W->NW P f args W (OI v W))(h:LXF P ops R t i d pre obj (k::l) (a.put o.dst v) w A):LXF P ops R t i d pre obj l a w A:=by
 rw[YG]at e;exact dG e.1 C g e.2 hi y (.inl ⟨n,λW z=>by unfold YV;rw[B W];exact⟨Ext.rfl' W,E W z⟩⟩) h
def WT{o:List Oper}(e:List Nat){a:NV}{w:I}{A:Nat->Prop}(g:(okT o.toArray t&&e.all λk=>M0 o.toArray k i)=Z)(C:o.toArray[i]? =U oi)(n:oi.dst=U d)(y:Jg o.toArray t e l=Z)(h:wpQuiet P o.toArray (λw'=>∃p:Gr,w'=gr w p.d p.os) (λa'=>LXF P o.toArray R t i d pre obj (doneL e l) a' w A) (ZR o e) a):LXF P o.toArray R t i d pre obj l a w A:=by
 rw[YG]at g;exact cw (X:=λl a=>LXF P o.toArray R t i d pre obj l a w A) (λk=>M0 o.toArray k i=Z) (λ_ _ _ _ _ E hi z B h=>dG g.1 C n E hi z B h) e l a (λk z=>YL.1 g.2 k z) y h
def WV(k:Nat){o:Oper}{a:NV}{w:I}{A:Nat->Prop}(hi:ops[k]? =U o)(g:(pre.contains k&&decide (l.length<ops.size)&&decide (k<ops.size)&& !(mark ops.size l).getD k Z&&(Region.ready .any ops (mark ops.size l)).all λj=>j==k||j==i)=Z)(n:Region.wanted o (yielded ops a.tmps)=Z)
 (h:∀W,Ext w W->o.wp P a W (λa' e=>Ext W e/\LXF P ops R t i d pre obj (k::l) a' e (subA A W e)) FQ):LXF P ops R t i d pre obj l a w A:=by
 simp only[YG,XE,XZ]at g;obtain⟨⟨⟨⟨F,_⟩,K⟩,C⟩,H⟩:=g;unfold LXF at*;rw[show ops.size - l.length=(ops.size - (k::l).length)+1 by simp only[YP];omega];refine λW z=>⟨λj B E=> ?_,λy=> ?_⟩
 .have h6:=YL.1 H j B;obtain rfl:j=k:=by simpa[E]using h6
  unfold wpOp;simp only[hi,n,XY];exact .inl (h W z)
 .have h6:=y k (by simpa using F);rw[<-JP (by rw[me];exact K),C]at h6;cases h6
def Qh(g:(decide (l.length<ops.size)&&(Region.ready .any ops (mark ops.size l)==[i]))=Z)
 (h:∀W,Ext w W->∀b,A b->b<W.heap.size->W.heap[b]? =U obj->LX P ops R t (i::l) (a.put (U d) (NI (U ⟨b,0,NB⟩))) W):LXF P ops R t i d pre obj l a w A:=by
 rw[YG,XE,XU]at g;unfold LXF LX at*;rw[show ops.size - l.length=(ops.size - (i::l).length)+1 by simp only[YP];omega];refine λW n=>⟨λj e z=> ?_,λ_ b C B y=>h W n b C B y⟩
 rw[g.2]at e;exact absurd (by simpa using e) z
def Rt{id:Nat}(t i d:Nat)(pre:List Nat)(obj:Obj)(y:P.follows .mixedOrders=Z)(hi:ops[i]? =U oi)(C:okF ops t i pre=Z)(g:oi.dst=U d)(F:oi.guard=NB)
 (B:∀(a:NV) W,(NU a.eval oi).run P W= .ok (.value (NI (U W.heap.size))) (W.alloc obj))(h:LXF P ops R t i d pre obj [] a w λb=>w.heap.size<=b):(Code.region id ops Z).wp P R a w:=by
 have H:i<ops.size:=(YF.1 hi).1;unfold LXF at h;refine wp_region_any y (wpAny_of_E (t:=t) _ _ _ _ ?_);obtain⟨n,e⟩:∃n,ops.size=n+1:=⟨ops.size - 1,OA⟩;rw[XW,Nat.sub_zero,mark,e]at h
 have z:=nH (R:=R) (pX hi C) g F B n (Array.replicate (n+1) J) a {w with drawn:=w.drawn+1} (λb=>w.heap.size<=b) (by simp[e]) (by simp only[Array.getD_eq_getD_getElem?,Array.getElem?_replicate];split<;>rfl) (by
  unfold P9;have:=List.countP_le_length (p:=λj=> !(Array.replicate (n+1) J).getD j J) (l:=List.range ops.size);simp at this⊢;omega) (λb E=>E) (h.mono (Ext.drew (Ext.rfl' w)) λ_ h=>h)
 rw[e];exact z
end
end
end Go.Nk
