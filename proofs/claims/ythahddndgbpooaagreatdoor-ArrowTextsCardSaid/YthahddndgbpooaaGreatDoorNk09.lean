import Derived.Test.YthahddndgbpooaaGreatDoorNk08
set_option linter.all false
set_option maxRecDepth 100000
open Go
open Option renaming some->J,none->NB
open Go.Proofs.Tryz renaming prog->U
open Bool renaming true->Z,false->I
open Go renaming World->NL,Frame->NN,undef->NQ,Value->NM,execOp->NU,Goroutine->NR,Addr->NP,Act->NV,Program->NO
open Go.IntKind renaming i64->NF
variable {a:NV}{ad q:NP}{ops:Array Oper}{b0 b0' b1 b1' b2 b2' b3 b3' b4 b4' b5 b5' b6 b6' main:Bool}{b c fr:NN}{E:NN->List NN->NL->Prop}{f:FuncId}{r0 r1 r2 r3:Int}{cs:List NN}{k' kk:List Item}{C Ik Ob Shb Wg cap d i j n off:Nat}{Gk:Nat->Bool}{ob:Obj}{oo:Oper}{x y:Operand}{P:NO}{t ty:TypeId}{u v v':NM}{V V1 V2 w w₁:NL}
namespace Go.Nk
open Go Go.RowKit Go.Conc
variable [Ban]
def jh(z:IsEnd E){fr:NN}{cs:List NN}{V:NL}(h:Halts P E fr cs V)(A:cs≠[trap]):
 ∃e p V1 L,stepG P Z (G fr cs) V= .go (G e p) V1 L/\Halts P E e p V1:=by
 cases h with
 |done t B=>exact absurd (z.at_ _ _ _ B).1 A
 |step _ _ _ _ H F=>
  have:=H V.tape;rw[Vt]at this;exact⟨_,_,_,_,this,F _⟩
structure At(E:NN->List NN->NL->Prop)(P:NO)(fs:Array Func)(Gs:Nat->Bool)(fr:NN)(cs:List NN)(V:NL):Prop where
 halts:Halts (Z6 P fs) E fr cs V
 self:Self P fs Gs fr cs V
 glob:∀g,Gs g=Z->Live V g
 up:cs≠[trap]
section
variable {fs:Array Func}{Gs:Nat->Bool}
def At.go(hs:Solo P fs Gs)(L:IsEnd E){fr:NN}{cs:List NN}{V:NL}(h:At E P fs Gs fr cs V):
 ∃p z V1 O,stepG (Z6 P fs) Z (G fr cs) V= .go (G p z) V1 O/\Halts (Z6 P fs) E p z V1/\Self P fs Gs p z V1/\(∀g,Gs g=Z->Live V1 g):=by
 obtain⟨p,z,V1,O,e,M⟩:=jh L h.halts h.up;rcases MY hs h.glob h.self with(⟨o,V2,A,e2⟩|⟨B,V2,A,e2,X⟩)|⟨B,_,V2,A,e2,T,Y,_,_⟩|hb
 .rw[e]at e2;cases e2
 .rw[e]at e2;injection e2 with H F g3;obtain⟨rfl,rfl⟩:=Y8 H;subst F;exact(HK L M X).elim
 .rw[e]at e2;injection e2 with H F g3;obtain⟨rfl,rfl⟩:=Y8 H;subst F;exact⟨_,_,_,_,e,M,T,λg W=>Y g (h.glob g W)⟩
 .exact absurd hb.1 h.up
def At.op(X:Solo P fs Gs)(hE:IsEnd E){b:NN}{a:NV}{k:List Item}{cs:List NN}{V:NL}{ops:Array Oper}{i:Nat}{rest:List Nat}{o:Oper}(T:ops[i]? =J o)(C9:ZJ (Z6 P fs) Gs o.op=Z)(O:Region.wanted o (yielded ops a.tmps)=Z)(hk:b.kind≠.early)
 (hv:∀x V1,(NU a.eval o).run (Z6 P fs) V= .ok x V1->∃v,x= .value v)(h:At E P fs Gs (b.at a (.inRegion ops (i::rest)::k)) cs V):
 ∃v V1,(NU a.eval o).run (Z6 P fs) V= .ok (.value v) V1/\At E P fs Gs (b.at (a.put o.dst v) (.inRegion ops rest::k)) cs V1:=by
 obtain⟨_,_,V1,_,e,hh,Bc,A⟩:=h.go X hE;have z:=stepG_oper (P:=Z6 P fs) (main:=Z) (b:=b) (a:=a) (k:=k) (cs:=cs) (w:=V) (rest:=rest) T O;have C3:∀x:Operand,Zf Gs x=Z->VRel id (Live V) (a.eval x) (a.eval x):=by
  intro x H;have:=h.self.fro.eval (λg A=>⟨h.glob g A,rfl⟩) x H
  rwa [Frame.eval_at]at this
 rcases cY (fs:=fs) (P:=Z6 P fs) (Gs:=Gs) (ρ:=id) X.ok C3 (λ_=>rfl) (λ_=>rfl) o C9 h.self.sim h.self.loops with⟨H,V2,L,p,Y⟩|⟨V2,_,new,L,_,_,_,⟨x,_,_,p,_⟩|⟨v,v',p,_⟩⟩
 .exfalso;rw[e]at z;have p:(NU a.eval o).runT (Z6 P fs) V #[]=_:=p;simp only[stepG.apply,XY,p]at z;cases H with
  |stuck s=>cases z
  |unsupported u=>cases u<;>first|exact Y.elim|cases z
  |_=>exact Y.elim
 .have p:(NU a.eval o).runT (Z6 P fs) V #[]=_:=p;have F:(NU a.eval o).run (Z6 P fs) V= .ok x V2:=by rw[<-Sem.runT_fst (Z6 P fs) (NU a.eval o) V #[],p]
  obtain⟨v,rfl⟩:=hv _ _ F;rw[stepG_value T O hk F]at e;injection e with B M g3;obtain⟨rfl,rfl⟩:=Y8 B;subst M;exact⟨v,V2,F,hh,Bc,A,h.up⟩
 .exfalso;rw[e]at z;have p:(NU a.eval o).runT (Z6 P fs) V #[]=_:=p;simp only[stepG.apply,XY,p,GStep.after]at z;injection z with B M g3;obtain⟨rfl,rfl⟩:=Y8 B;have W:=Bc.fro.mode.2;obtain⟨_,hc⟩:=MQ (b.at a (.inRegion ops (i::rest)::k)) [{v,recovered:=I}];rw[hc]at W;rcases W with hm|hm<;>cases hm
def At.ctl(O:Solo P fs Gs)(A:IsEnd E){fr z:NN}{cs p:List NN}{V V1:NL}{M:Array Event}(h:At E P fs Gs fr cs V)(H:stepG (Z6 P fs) Z (G fr cs) V= .go (G z p) V1 M)(W:p≠[trap]):At E P fs Gs z p V1:=by
 obtain⟨_,_,V2,_,e,L,X,T⟩:=h.go O A;rw[H]at e;injection e with F B _;obtain⟨rfl,rfl⟩:=Y8 F;subst B;exact⟨L,X,T,W⟩
def At.dead(A:Solo P fs Gs)(p:IsEnd E){fr:NN}{cs:List NN}{V V1:NL}{o:Outcome}{es:Array Event}(h:At E P fs Gs fr cs V)(z:stepG (Z6 P fs) Z (G fr cs) V= .ended o V1 es):False:=by
 obtain⟨_,_,V2,_,e,_⟩:=h.go A p;rw[z]at e;cases e
def il(P:NO){fr:NN}{V:NL}(L:FrR (Z6 P fs) fs Gs id (Live V) fr fr)(B:fr.mode= .returning)(F:fr.defers=[]){n:Nat}{A:NN}{p:List NN}{O:NL}(W:runN (Z6 P fs) (n+1) (lone fr [trap] V)= .next (lone A p O))(X:p≠[]):False:=by
 obtain⟨T,_,_,H,_,_⟩:=L.tm;have e1:stepG (Z6 P fs) Z (G fr [trap]) V=unwind (Z6 P fs) Z fr [trap] NB V:=by simp only[G,stepG,B]
 obtain⟨_,q1,q2⟩:=Qp W;cases hx:(results T fr.tmps).runT (Z6 P fs) V #[]with
 |mk r M=>
  cases r with
  |halt z V1=>
   have e2:∃o e,stepG (Z6 P fs) Z (G fr [trap]) V= .ended o V1 e:=by
    rw[e1];simp only[unwind,F,B,H,hx];cases z<;>exact⟨_,_,rfl⟩
   obtain⟨o,e,e2⟩:=e2;have e4:step (Z6 P fs) (lone fr [trap] V)= .ended o V1:=step_lone_ended (by show(stepG (Z6 P fs) Z (G fr [trap]) V).bare=_;rw[e2];rfl);rw[e4]at q1;cases q1
  |ok v V1=>
   have e2:stepG (Z6 P fs) Z (G fr [trap]) V= .go (G (trap.finish v) []) V1 (seen (Z6 P fs) fr.fn M++ #[]):=by
    rw[e1];simp only[unwind,F,B,H,hx,doReturn,L.kind.1];rfl
   rw[Vb e2]at q1;cases q1;cases n with
   |zero=>
    simp only[runN,UK]at q2;obtain⟨_,h,_⟩:=PF q2;exact X h.symm
   |succ n=>
    obtain⟨_,q3,q4⟩:=Qp q2;obtain⟨o,M,e3⟩:=aW (Z6 P fs) V1 v;have e4:step (Z6 P fs) (lone (trap.finish v) [] V1)= .ended o V1:=step_lone_ended (by show(stepG (Z6 P fs) Z (G (trap.finish v) []) V1).bare=_;rw[e3];rfl);rw[e4]at q3;cases q3
def jY(hs:Solo P fs Gs)(L:IsEnd E):∀(n:Nat){fr:NN}{cs:List NN}{V:NL}{p:NN}{h:List NN}{A:NL},Halts (Z6 P fs) E fr cs V->Self P fs Gs fr cs V->(∀g,Gs g=Z->Live V g)->
 runN (Z6 P fs) n (lone fr cs V)= .next (lone p h A)->h≠[]->Path (Z6 P fs) fr cs V p h A/\Self P fs Gs p h A:=by
 intro n
 induction n with
 |zero=>
  intro fr cs V p h A _ M _ B _;simp only[runN,UK]at B;obtain⟨rfl,rfl,rfl⟩:=PF B;exact⟨.refl,M⟩
 |succ n ih=>
  intro fr cs V p h A hH M hg B hc;by_cases H:cs=[trap]/\fr.mode= .returning/\fr.defers=[]
  .obtain⟨rfl,hm,hd⟩:=H;exact(il P M.fro hm hd B hc).elim
  .cases hH with
   |done t Y=>exact absurd ⟨(L.at_ _ _ _ Y).1,(L.at_ _ _ _ Y).2,L.defers _ _ _ Y⟩ H
   |step _ _ _ ne Al z=>
    have e:=Al V.tape;rw[Vt]at e;have z:=z V.tape;rcases MY hs hg M with(⟨o,V2,F,e2⟩|⟨O,V2,F,e2,hp⟩)|⟨O,_,V2,F,e2,h2,h3,_,_⟩|Cq
    .rw[e]at e2;cases e2
    .rw[e]at e2;injection e2 with X W g3;obtain⟨q1,q2⟩:=Y8 X;rw[q1,q2,W]at z;exact(HK L z hp).elim
    .rw[e]at e2;injection e2 with X W g3;obtain⟨q1,q2⟩:=Y8 X;rw[q1,q2,W]at z e;obtain⟨_,q3,q4⟩:=Qp B;rw[Vb e]at q3;cases q3;obtain⟨i1,i2⟩:=ih z h2 (λg T=>h3 g (hg g T)) q4 hc;exact⟨.step (es:=ne V.tape) V.tape H (by rw[Vt];exact e) i1,i2⟩
    .exact absurd Cq H
end
end Go.Nk
namespace Go.Proofs.Tryq
open Go Go.Nk Go.RowKit Go.Conc
attribute [local instance] theBan
def ga{x:NM}(h:(Instr.field 132 x 0).run prog V= .ok v V1):V1=V/\∃cs,x= .agg cs/\v= .agg (cs.extract 0 5):=by
 unfold Instr.field Go.part at h;cases x with
 |agg cs=>
  simp[go_sem,run_asAgg]at h;exact⟨h.2.symm,cs,rfl,h.1.symm⟩
 |_=>simp[go_sem,asAgg]at h
def jP{cs:Array NM}(h:(Instr.field 31 (.agg cs) 0).run prog V= .ok v V1):V1=V/\v= .agg (cs.extract 0 4):=by
 unfold Instr.field Go.part at h;simp[go_sem,run_asAgg]at h;exact⟨h.2.symm,h.1.symm⟩
def fM{cs:Array NM}(h:(Instr.field 31 (.agg cs) 1).run prog V= .ok v V1):V1=V/\cs[4]? =J v:=by
 unfold Instr.field Go.part at h;simp[go_sem,run_asAgg]at h;cases hc:cs[4]? with
 |none=>rw[hc]at h;cases h
 |some u=>rw[hc]at h;cases h;exact⟨rfl,rfl⟩
def Ht(e:j<4){cs:Array NM}{v:NM}{V V1:NL}(h:(Instr.field 28 (.agg cs) j).run prog V= .ok v V1):V1=V/\cs[j]? =J v:=by
 unfold Instr.field Go.part at h;obtain rfl|rfl|rfl|rfl:j=0\/j=1\/j=2\/j=3:=OA
 all_goals
  simp[go_sem,run_asAgg]at h;split at h
  .rename_i u hu;cases h;exact⟨rfl,hu⟩
  .cases h
def S2{x:NM}{n:Int}(h:(Go.binOp .leq 3 x (.int NF n)).run prog V= .ok v V1):V1=V/\∃p,x= .int NF p/\v= .bool (decide (p<=n)):=by
 cases x with
 |int k p=>
  unfold Go.binOp at h;by_cases e:k= NF
  .subst e;simp[go_sem]at h;exact⟨h.2.symm,p,rfl,h.1.symm⟩
  .simp[e]at h
 |_=>simp[Go.binOp]at h
def ei{x:NM}{n:Int}(h:(Go.binOp .leq 3 (.int NF n) x).run prog V= .ok v V1):V1=V/\∃p,x= .int NF p/\v= .bool (decide (n<=p)):=by
 cases x with
 |int k p=>
  unfold Go.binOp at h;by_cases e:k= NF
  .subst e;simp[go_sem]at h;exact⟨h.2.symm,p,rfl,h.1.symm⟩
  .simp[SJ e]at h
 |_=>simp[Go.binOp]at h
def gE{x:NM}(h:(Builtin.len_ #[29] ty #[x]).run prog V= .ok v V1):V1=V/\∃e n cap,x= .slice e n cap/\v= .int NF n:=by
 cases x with
 |slice e n cap=>
  simp[Builtin.len_,go_sem]at h;exact⟨h.2.symm,e,n,cap,rfl,h.1.symm⟩
 |_=>simp[Builtin.len_,go_sem]at h
def jE{e:Option NP}(hi:i<n){v:NM}{V V1:NL}(h:(Instr.indexAt 29 (.slice e n cap) (.int NF i)).run prog V= .ok v V1):V1=V/\∃ad,e=J ad/\v= .pointer (J (ad.add (i*5))):=by
 cases e with
 |some ad=>
  simp[Instr.indexAt,go_sem,hi]at h;exact⟨h.2.symm,ad,rfl,h.1.symm⟩
 |none=>
  simp[Instr.indexAt,go_sem,hi,boundsPanic]at h;split at h<;>cases h
def KB(e:Live V ad.block)(h:(Instr.loadAt 3 (.pointer (J ad))).run prog V= .ok v V1):V1=V/\V.cell? ad=J v:=by
 have p:=bj e prog (Mode.plain==Mode.atomic);simp[Instr.loadAt,go_sem]at h;cases hc:V.cell? ad with
 |some u=>simp[hc]at h;exact⟨h.2.symm,by rw[h.1]⟩
 |none=>simp[hc,p]at h
end Go.Proofs.Tryq
section
namespace Go.Nk
open Go
section
variable [Ban]{Gs:Nat->Bool}(Bz:∀g,Gs g=Z->Gk g=Z)
include Bz
def Pl(h:Zf Gs x=Z):Zf Gk x=Z:=by
 cases x with|global g=>exact Bz g h|tmp t=>rfl|const v=>exact h|func f=>exact h
def AB{l:List Operand}(h:l.all (Zf Gs)=Z):l.all (Zf Gk)=Z:=by
 rw[YL]at h⊢;exact λx e=>Pl Bz (h x e)
def nP{α:Type}{l:List (α×Operand)}(h:l.all (λp=>Zf Gs p.2)=Z):l.all (λp=>Zf Gk p.2)=Z:=by
 rw[YL]at h⊢;exact λx e=>Pl Bz (h x e)
def jN{l:Option Operand}(h:l.all (Zf Gs)=Z):l.all (Zf Gk)=Z:=by
 cases l with|none=>rfl|some x=>exact Pl Bz h
def gT{c:Call}(h:PG P Gs c=Z):PG P Gk c=Z:=by
 unfold PG at h⊢;rw[YG]at h⊢;refine⟨AB Bz h.1,?_⟩;have e:=h.2;cases hc:c.callee with
 |value f=>
  rw[hc]at e;cases f with|func f=>exact e|tmp t=>exact Pl Bz e|const t=>exact Pl Bz e|global t=>exact Pl Bz e
 |builtin b=>rw[hc]at e;cases b<;>exact e
 |invoke _ _=>rw[hc]at e;exact e
def cb{o:Op}(h:ZJ P Gs o=Z):ZJ P Gk o=Z:=by
 have e:∀{x:Operand},Zf Gs x=Z->Zf Gk x=Z:=λh=>Pl Bz h
 have B:∀{l:List Operand},l.all (Zf Gs)=Z->l.all (Zf Gk)=Z:=λh=>AB Bz h
 have z:∀{l:List (Nat×Operand)},l.all (λp=>Zf Gs p.2)=Z->l.all (λp=>Zf Gk p.2)=Z:=λh=>nP Bz h
 have F:∀{l:Option Operand},l.all (Zf Gs)=Z->l.all (Zf Gk)=Z:=λh=>jN Bz h
 have A:∀{c:Call},PG P Gs c=Z->PG P Gk c=Z:=λh=>gT Bz h
 unfold ZJ at h⊢;split at h<;>first|grind|(simp only[YG]at h⊢;grind)
def codeOk_mono:∀{c:Code},Zn P Gs c=Z->Zn P Gk c=Z:=by
 have p:∀{x:Operand},Zf Gs x=Z->Zf Gk x=Z:=λh=>Pl Bz h
 intro c
 induction c with
 |region i ops d=>
  intro h;simp only[Zn,YL]at h⊢;exact λx e=>cb Bz (h x e)
 |_=>simp only[Zn,YG]at*;grind
def cz{fs:Array Func}(h:Tm P fs Gs f):Tm P fs Gk f:=by
 obtain⟨p,c,A,e,B,z⟩:=h;exact⟨p,c,A,e,B,codeOk_mono Bz z⟩
end
end Go.Nk
namespace Go.Proofs.Tryq
open Go Go.Nk
attribute [local instance] theBan
class GK where
 gk:Nat->Bool
 le:∀g,Gs g=Z->gk g=Z
def soloK[GK]:Solo U fs GK.gk:=⟨solo.ok,λf e=>cz GK.le (solo.all f e)⟩
def tmK[GK]{f:FuncId}(h:f∈keptList):Tm U fs GK.gk f:=cz GK.le (tm h)
end Go.Proofs.Tryq
end
namespace Go.Proofs.Tryq
open Go Go.Nk Go.RowKit Go.Conc
attribute [local instance] theBan
section
def PX{o:Oper}(h:o.guard=NB)(y:Nat->Option Bool):Region.wanted o y=Z:=by simp[Region.wanted,h]
def ML(a:NV)(d:Nat)(v:NM):(a.put (J d) v).tmps=a.tmps.setIfInBounds d v:=rfl
def KW(h:d<a.tmps.size):(a.put (J d) v).eval (.tmp i)=if d=i then v else a.eval (.tmp i):=by
 simp only[Act.eval,ML,Array.getD_eq_getD_getElem?];by_cases e:d=i
 .subst e;rw[YZ rfl,YM h];rfl
 .rw[XB e,YO e]
def At.val[GK](O:Solo U fs GK.gk)(B:IsEnd E){b:NN}{a:NV}{k:List Item}{cs:List NN}{V:NL}{ops:Array Oper}{i:Nat}{rest:List Nat}{o:Oper}{X:Sem NM}{d:Nat}(H:ops[i]? =J o)(M:ZJ prog Gs o.op=Z)(T:o.guard=NB)(L:o.dst=J d)(F:b.kind≠.early)
 (z:NU a.eval o=(do Pure.pure (Next.value (<-X))))(h:At E U fs GK.gk (b.at a (.inRegion ops (i::rest)::k)) cs V):
 ∃v V1,X.run prog V= .ok v V1/\At E U fs GK.gk (b.at (a.put (J d) v) (.inRegion ops rest::k)) cs V1:=by
 obtain⟨v,V1,e,A⟩:=h.op O B H (cb GK.le M) (PX T _) F (λx V1 p=>by
  rw[z,UH]at p;cases hy:X.run (Z6 U fs) V with
  |ok v V2=>rw[hy]at p;cases p;exact⟨v,rfl⟩
  |halt _ _=>rw[hy]at p;cases p)
 rw[z,UH]at e;rw[L]at A;cases hy:X.run (Z6 U fs) V with
 |ok v' V2=>rw[hy]at e;cases e;exact⟨v,V1,hy,A⟩
 |halt _ _=>rw[hy]at e;cases e
end
def aK(x:NM):NV:=⟨#[x,NQ,NQ,NQ,NQ,NQ,NQ,NQ,NQ,NQ,NQ,NQ,NQ,NQ,NQ,NQ,NQ,NQ,NQ,NQ,NQ,NQ,NQ,NQ,NQ,NQ,NQ,NQ,NQ,NQ,NQ,NQ,NQ,NQ],[]⟩
def enterK(x:NM):Frame.enter (Z6 U fs) 114 #[x] .normal=(base 114).at (aK x) [.code kBody]:=by
 have h:(Z6 U fs).funcs[114]? =J kf:=func114;rw[enter_at #[x] h (show kf.body=J kBody from rfl)];have e: #[x]++Array.replicate (kf.ntmps - (#[x]:Array NM).size) NQ=(aK x).tmps:=by
  show #[x]++Array.replicate 33 NQ=_;apply Array.ext';simp[aK,List.replicate_succ]
 rw[e];rfl
def px{cs:Array NM}(h:(Instr.build 136 #[(0,.agg cs)]).run prog V= .ok v V1):V1=V/\cs.size=5:=by
 unfold Instr.build at h;simp[go_sem]at h;by_cases e:cs.size=5
 .simp[e,go_sem]at h;exact⟨h.2.symm,e⟩
 .simp[e,go_sem]at h
def Ri(m:Nat->NM):Operand->NM
 | .tmp t=>m t
 | .const v=>v
 | .global g=> .pointer (J g)
 | .func f=> .func (.func f) #[] #[]
def upT(m:Nat->NM)(d:Nat)(v:NM):Nat->NM:=λi=>if d=i then v else m i
def OnWay[GK](E:NN->List NN->NL->Prop)(cs:List NN)(m:Nat->NM)(k:List Item)(V:NL):Prop:=
 ∃a:NV,a.tmps.size=34/\a.eval=Ri m/\At E U fs GK.gk ((base 114).at a k) cs V
section
variable {m:Nat->NM}{k:List Item}
def OnWay.val[GK](p:IsEnd E){ops:Array Oper}{i:Nat}{rest:List Nat}{o:Oper}{X:Sem NM}{d:Nat}(h:OnWay E cs m (.inRegion ops (i::rest)::k) V)(A:ops[i]? =J o)(F:ZJ prog Gs o.op=Z)(T:o.guard=NB)(z:o.dst=J d)(Y:d<34)
 (O:NU (Ri m) o=(do Pure.pure (Next.value (<-X)))):
 ∃v V1,X.run prog V= .ok v V1/\OnWay E cs (upT m d v) (.inRegion ops rest::k) V1:=by
 obtain⟨a,H,e,M⟩:=h;obtain⟨v,V1,L,B⟩:=At.val soloK p A F T z (show(base 114).kind≠.early from λh=>by cases h) (by rw[e];exact O) M;refine⟨v,V1,L,_,?_,?_,B⟩
 .rw[ML];simpa using H
 .funext x;have W:=congrFun e x;cases x with
  |tmp t=>
   rw[KW OA];show _=upT m d v t;unfold upT;split
   .rfl
   .exact W
  |_=>rfl
def OnWay.ctl[GK](p:IsEnd E)(z:cs≠[trap])(A:∀a:NV,a.eval=Ri m->stepG (Z6 U fs) Z (G ((base 114).at a k) cs) V= .go (G ((base 114).at a k') cs) V #[])(h:OnWay E cs m k V):OnWay E cs m k' V:=by
 obtain⟨a,B,e,F⟩:=h;exact⟨a,B,e,F.ctl soloK p (A a e) z⟩
def OnWay.cond[GK](e:IsEnd E)(p:cs≠[trap]){c:Operand}{x y:Code}{t:Bool}(A:Ri m c= .bool t)(h:OnWay E cs m (.code (.cond c x y)::k) V):OnWay E cs m (.code (if t then x else y)::k) V:=
 h.ctl e p λa z=>stepG_cond (by rw[z];exact A)
def OnWay.refuse[GK](e:IsEnd E){id:Nat}(z:exitTo id k=NB)(h:OnWay E cs m (.code (.exit id)::k) V):False:=by
 obtain⟨a,_,_,p⟩:=h;exact p.dead soloK e (V1:=V) (o:=_) (es:= #[]) (by simp only[G,stepG,stepG.exec,Frame.at,z];rfl)
end
@[simp] def run_field65 (a:NP) (j:Nat) (e:j<4) (w:NL):(Instr.fieldAt 75 (.pointer (J a)) j).run prog w= .ok (.pointer (J (a.add (if j<2 then j else j+1)))) w:=by
  obtain rfl|rfl|rfl|rfl:j=0\/j=1\/j=2\/j=3:=OA
  all_goals simp[go_sem,Instr.fieldAt,fieldPlace]
@[simp] def run_field41 (a:NP) (j:Nat) (e:j<2) (w:NL):(Instr.fieldAt 49 (.pointer (J a)) j).run prog w= .ok (.pointer (J (a.add j))) w:=by
  obtain rfl|rfl:j=0\/j=1:=OA
  all_goals simp[go_sem,Instr.fieldAt,fieldPlace]
def iD[GK]{E:NN->List NN->NL->Prop}{cs:List NN}{V:NL}{m:Nat->NM}{k:List Item}(A:IsEnd E)(h:OnWay E cs m (.inRegion kRule [0,1,2,3,4,5,6,7,8,9,10,11,12,13,14]::k) V):
 ∃(r0 r1 r2 r3:Int)(ad:Option NP)(n cap:Nat)(B:Nat->NM),m 0= .agg (Zh r0 r1 r2 r3 ad n cap)/\OnWay E cs B (.inRegion kRule []::k) V/\B 3= .slice ad n cap/\B 10= .int NF n/\B 11= .bool (decide ((n:Int)<=8))/\B 12= .int NF 0:=by
 obtain⟨_,V1,rB,w0⟩:=OnWay.val A (ops:=kRule) (d:=9) (X:=Instr.build 136 #[(0,m 0)]) (i:=0) h rfl OB rfl rfl OC (by simp[NU,kRule,op,Ri]);obtain⟨_,V1,z,w1⟩:=OnWay.val A (ops:=kRule) (d:=1) (X:=Instr.field 132 (m 0) 0) (i:=1) w0 rfl OB rfl rfl OC rfl;obtain⟨e1,c,hx,rfl⟩:=ga z;rw[hx]at rB;obtain⟨e2,_⟩:=px rB;subst e2;subst e1;obtain⟨_,V1,z,w2⟩:=OnWay.val A (ops:=kRule) (d:=2) (X:=Instr.field 31 (.agg (c.extract 0 5)) 0) (i:=2) w1 rfl OB rfl rfl OC rfl;obtain⟨e,rfl⟩:=jP z;subst e;obtain⟨y3,V1,z,w3⟩:=OnWay.val A (ops:=kRule) (d:=3) (X:=Instr.field 31 (.agg (c.extract 0 5)) 1) (i:=3) w2 rfl OB rfl rfl OC rfl;obtain⟨e,h3⟩:=fM z;subst e;obtain⟨z0,V1,z,w4⟩:=OnWay.val A (ops:=kRule) (d:=4) (X:=Instr.field 28 (.agg ((c.extract 0 5).extract 0 4)) 0) (i:=4) w3 rfl OB rfl rfl OC rfl;obtain⟨e,W⟩:=Ht OC z;subst e;obtain⟨z1,V1,z,w5⟩:=OnWay.val A (ops:=kRule) (d:=5) (X:=Instr.field 28 (.agg ((c.extract 0 5).extract 0 4)) 1) (i:=5) w4 rfl OB rfl rfl OC rfl;obtain⟨e,Y⟩:=Ht OC z;subst e;obtain⟨z2,V1,z,w6⟩:=OnWay.val A (ops:=kRule) (d:=6) (X:=Instr.field 28 (.agg ((c.extract 0 5).extract 0 4)) 2) (i:=6) w5 rfl OB rfl rfl OC rfl
 obtain⟨e,T⟩:=Ht OC z;subst e;obtain⟨z3,V1,z,w7⟩:=OnWay.val A (ops:=kRule) (d:=7) (X:=Instr.field 28 (.agg ((c.extract 0 5).extract 0 4)) 3) (i:=7) w6 rfl OB rfl rfl OC rfl;obtain⟨e,g3⟩:=Ht OC z;subst e;obtain⟨_,V1,z,w8⟩:=OnWay.val A (ops:=kRule) (d:=8) (X:=Go.binOp .leq 3 z0 (.int NF 0)) (i:=8) w7 rfl OB rfl rfl OC rfl;obtain⟨e,r0,rfl,rfl⟩:=S2 z;subst e;obtain⟨_,V1,z,w9⟩:=OnWay.val A (ops:=kRule) (d:=8) (X:=Go.binOp .leq 3 z1 (.int NF 0)) (i:=9) w8 rfl OB rfl rfl OC rfl;obtain⟨e,r1,rfl,rfl⟩:=S2 z;subst e;obtain⟨_,V1,z,O⟩:=OnWay.val A (ops:=kRule) (d:=8) (X:=Go.binOp .leq 3 z2 (.int NF 0)) (i:=10) w9 rfl OB rfl rfl OC rfl;obtain⟨e,r2,rfl,rfl⟩:=S2 z;subst e;obtain⟨_,V1,z,F⟩:=OnWay.val A (ops:=kRule) (d:=8) (X:=Go.binOp .leq 3 z3 (.int NF 0)) (i:=11) O rfl OB rfl rfl OC rfl;obtain⟨e,r3,rfl,rfl⟩:=S2 z;subst e;obtain⟨_,V1,z,M⟩:=OnWay.val A (ops:=kRule) (d:=10) (X:=Builtin.len_ #[29] 0 #[y3]) (i:=12) F rfl OB rfl rfl OC (by simp[NU,kRule,op,Ri,resolve,invoke,upT];rfl);obtain⟨e,ad,n,cap,rfl,rfl⟩:=gE z
 subst e;obtain⟨_,V1,z,H⟩:=OnWay.val A (ops:=kRule) (d:=11) (X:=Go.binOp .leq 3 (.int NF n) (.int NF 8)) (i:=13) M rfl OB rfl rfl OC rfl;obtain⟨e,p,ep,rfl⟩:=S2 z;cases ep;subst e;obtain⟨_,V1,z,L⟩:=OnWay.val A (ops:=kRule) (d:=12) (X:=Pure.pure (.int NF 0)) (i:=14) H rfl OB rfl rfl OC rfl;cases z;refine⟨r0,r1,r2,r3,ad,n,cap,_,?_,L,rfl,rfl,rfl,rfl⟩;rw[hx];congr 1;have q:∀j,j<4->((c.extract 0 5).extract 0 4)[j]? =c[j]? :=by
  intro j hj;rw[Array.getElem?_extract,YZ (by simp;omega),Array.getElem?_extract,YZ OA];simp
 have q4:(c.extract 0 5)[4]? =c[4]? :=by
  rw[Array.getElem?_extract,YZ OA]
 rw[q 0 OA]at W;rw[q 1 OA]at Y;rw[q 2 OA]at T;rw[q 3 OA]at g3;rw[q4]at h3;apply Array.ext_getElem?;intro j;rcases VC j 5 with hj|hj
 .obtain rfl|rfl|rfl|rfl|rfl:j=0\/j=1\/j=2\/j=3\/j=4:=OA
  .exact W
  .exact Y
  .exact T
  .exact g3
  .exact h3
 .rw[Array.getElem?_eq_none OA,Array.getElem?_eq_none (by simp[Zh];omega)]
def na[GK]{E:NN->List NN->NL->Prop}{cs:List NN}{V:NL}{m:Nat->NM}{k:List Item}(B:IsEnd E){H:Option NP}{n cap i:Nat}(hi:i<n)(hl:∀a,H=J a->Live V a.block)(m3:m 3= .slice H n cap)(a8:m 12= .int NF i)
 (h:OnWay E cs m (.inRegion kShot [0,1,2,3,4,5,6,7,8,9,10,11,12,13,14,15,16,17]::k) V):
 ∃(ad:NP)(L x1 Y T O:Int)(F:Nat->NM),H=J ad/\V.cell? ((ad.add (i*5)).add 0)=J (.int NF L)/\V.cell? (((ad.add (i*5)).add 1).add 0)=J (.int NF x1)/\V.cell? (((ad.add (i*5)).add 1).add 1)=J (.int NF Y)/\
  V.cell? ((ad.add (i*5)).add 3)=J (.int NF T)/\V.cell? ((ad.add (i*5)).add 4)=J (.int NF O)/\OnWay E cs F (.inRegion kShot []::k) V/\F 3=m 3/\F 10=m 10/\F 12=m 12/\F 28= .bool (decide (0<=L))/\F 29= .bool (decide (L<=90)):=by
 obtain⟨_,V1,z,w0⟩:=OnWay.val B (ops:=kShot) (d:=14) (X:=Instr.indexAt 29 (m 3) (m 12)) (i:=0) h rfl OB rfl rfl OC rfl;rw[m3,a8]at z;obtain⟨e,ad,rfl,rfl⟩:=jE hi z;subst e;have Mk:Live V1 ad.block:=hl _ rfl;have M:∀(x:NP)(j:Nat),(x.add j).block=x.block:=λx j=>by unfold Addr.add;split<;>rfl
 suffices hh:∃(L x1 Y T O:Int)(F:Nat->NM),V1.cell? ((ad.add (i*5)).add 0)=J (.int NF L)/\V1.cell? (((ad.add (i*5)).add 1).add 0)=J (.int NF x1)/\V1.cell? (((ad.add (i*5)).add 1).add 1)=J (.int NF Y)/\V1.cell? ((ad.add (i*5)).add 3)=J (.int NF T)/\V1.cell? ((ad.add (i*5)).add 4)=J (.int NF O)/\OnWay E cs F (.inRegion kShot []::k) V1/\F 3=m 3/\F 10=m 10/\F 12=m 12/\F 28= .bool (decide (0<=L))/\F 29= .bool (decide (L<=90))from let ⟨a1,a2,a3,a4,a5,a6,r⟩:=hh;⟨ad,a1,a2,a3,a4,a5,a6,rfl,r⟩
 obtain⟨A,hA⟩:∃A,A=ad.add (i*5):=⟨_,rfl⟩;rw[<-hA]at w0⊢;have W:Live V1 A.block:=by rw[hA,M];exact Mk
 clear hA;obtain⟨_,V1,z,w1⟩:=OnWay.val B (ops:=kShot) (d:=15) (X:=Instr.fieldAt 75 (.pointer (J (A))) 0) (i:=1) w0 rfl OB rfl rfl OC rfl;rw[run_field65 _ _ OC]at z;cases z;obtain⟨v0,V1,z,w2⟩:=OnWay.val B (ops:=kShot) (d:=16) (X:=Instr.loadAt 3 (.pointer (J (A.add 0)))) (i:=2) w1 rfl OB rfl rfl OC rfl;obtain⟨e,c0⟩:=KB (by simp only[M];exact W) z;subst e;obtain⟨_,V1,z,w3⟩:=OnWay.val B (ops:=kShot) (d:=17) (X:=Instr.fieldAt 75 (.pointer (J (A))) 1) (i:=3) w2 rfl OB rfl rfl OC rfl;rw[run_field65 _ _ OC]at z;cases z;obtain⟨_,V1,z,w4⟩:=OnWay.val B (ops:=kShot) (d:=18) (X:=Instr.fieldAt 49 (.pointer (J (A.add 1))) 0) (i:=4) w3 rfl OB rfl rfl OC rfl;rw[run_field41 _ _ OC]at z;cases z;obtain⟨v1,V1,z,w5⟩:=OnWay.val B (ops:=kShot) (d:=19) (X:=Instr.loadAt 3 (.pointer (J ((A.add 1).add 0)))) (i:=5) w4 rfl OB rfl rfl OC rfl;obtain⟨e,c1⟩:=KB (by simp only[M];exact W) z;subst e;obtain⟨_,V1,z,w6⟩:=OnWay.val B (ops:=kShot) (d:=20) (X:=Instr.fieldAt 49 (.pointer (J (A.add 1))) 1) (i:=6) w5 rfl OB rfl rfl OC rfl
 rw[run_field41 _ _ OC]at z;cases z;obtain⟨v2,V1,z,w7⟩:=OnWay.val B (ops:=kShot) (d:=21) (X:=Instr.loadAt 3 (.pointer (J ((A.add 1).add 1)))) (i:=7) w6 rfl OB rfl rfl OC rfl;obtain⟨e,c2⟩:=KB (by simp only[M];exact W) z;subst e;obtain⟨_,V1,z,w8⟩:=OnWay.val B (ops:=kShot) (d:=22) (X:=Instr.fieldAt 75 (.pointer (J (A))) 2) (i:=8) w7 rfl OB rfl rfl OC rfl;rw[run_field65 _ _ OC]at z;cases z;obtain⟨v3,V1,z,w9⟩:=OnWay.val B (ops:=kShot) (d:=23) (X:=Instr.loadAt 3 (.pointer (J (A.add 3)))) (i:=9) w8 rfl OB rfl rfl OC rfl;obtain⟨e,c3⟩:=KB (by simp only[M];exact W) z;subst e;obtain⟨_,V1,z,c6⟩:=OnWay.val B (ops:=kShot) (d:=24) (X:=Instr.fieldAt 75 (.pointer (J (A))) 3) (i:=10) w9 rfl OB rfl rfl OC rfl;rw[run_field65 _ _ OC]at z;cases z;obtain⟨v4,V1,z,a0⟩:=OnWay.val B (ops:=kShot) (d:=25) (X:=Instr.loadAt 3 (.pointer (J (A.add 4)))) (i:=11) c6 rfl OB rfl rfl OC rfl;obtain⟨e,c4⟩:=KB (by simp only[M];exact W) z;subst e;obtain⟨_,V1,z,c5⟩:=OnWay.val B (ops:=kShot) (d:=26) (X:=Go.binOp .leq 3 v1 (.int NF 0)) (i:=12) a0 rfl OB rfl rfl OC rfl
 obtain⟨e,x1,rfl,rfl⟩:=S2 z;subst e;obtain⟨_,V1,z,b8⟩:=OnWay.val B (ops:=kShot) (d:=26) (X:=Go.binOp .leq 3 v2 (.int NF 0)) (i:=13) c5 rfl OB rfl rfl OC rfl;obtain⟨e,Y,rfl,rfl⟩:=S2 z;subst e;obtain⟨_,V1,z,b9⟩:=OnWay.val B (ops:=kShot) (d:=26) (X:=Go.binOp .leq 3 v3 (.int NF 0)) (i:=14) b8 rfl OB rfl rfl OC rfl;obtain⟨e,T,rfl,rfl⟩:=S2 z;subst e;obtain⟨_,V1,z,b7⟩:=OnWay.val B (ops:=kShot) (d:=26) (X:=Go.binOp .leq 3 v4 (.int NF 0)) (i:=15) b9 rfl OB rfl rfl OC rfl;obtain⟨e,O,rfl,rfl⟩:=S2 z;subst e;obtain⟨_,V1,z,a7⟩:=OnWay.val B (ops:=kShot) (d:=28) (X:=Go.binOp .leq 3 (.int NF 0) v0) (i:=16) b7 rfl OB rfl rfl OC rfl;obtain⟨e,L,rfl,rfl⟩:=ei z;subst e;obtain⟨_,V1,z,a9⟩:=OnWay.val B (ops:=kShot) (d:=29) (X:=Go.binOp .leq 3 (.int NF L) (.int NF 90)) (i:=17) a7 rfl OB rfl rfl OC rfl;obtain⟨e,p,ep,rfl⟩:=S2 z;cases ep;subst e;exact⟨L,x1,Y,T,O,_,c0,c1,c2,c3,c4,a9,rfl,rfl,rfl,rfl,rfl⟩
def valF{X:Sem NM}(h:X.run prog V= .ok v V1)(e:X.run prog V= .ok v' V2):v'=v/\V2=V1:=by rw[h]at e;cases e;exact⟨rfl,rfl⟩
def run_add1(i:Nat)(hi:i<=8)(V:NL):(Go.binOp .add 3 (.int NF i) (.int NF 1)).run prog V= .ok (.int NF (i+1)) V:=by
 have:IntKind.i64.wrap ((i:Int)+1)=i+1:=by rw[IntKind.wrap_i64];omega
 simp[Go.binOp,go_sem,this]
def kRest:List Item:=[.code (.seq (.region 4 kMake I) (.seq (.block 1 (.loop kBuild)) .ret))]
def iy(V:NL)(e:Option NP)(i:Nat):Prop:=∃(ad:NP)(h z B A p:Int),e=J ad/\0<=h/\h<=90/\V.cell? ((ad.add (i*5)).add 0)=J (.int NF h)/\V.cell? (((ad.add (i*5)).add 1).add 0)=J (.int NF z)/\V.cell? (((ad.add (i*5)).add 1).add 1)=J (.int NF B)/\
 V.cell? ((ad.add (i*5)).add 3)=J (.int NF A)/\V.cell? ((ad.add (i*5)).add 4)=J (.int NF p)
def iA[GK]{E:NN->List NN->NL->Prop}{cs:List NN}{V:NL}(p:IsEnd E)(z:cs≠[trap]){ba:Option NP}{n cap:Nat}(hl:∀a,ba=J a->Live V a.block)(Fc:n<=8):
 ∀(d i:Nat)(m:Nat->NM),i+d=n->OnWay E cs m (.code kCheck:: .inLoop kCheck:: .inBlock 0::kRest) V->m 3= .slice ba n cap->m 10= .int NF n->m 12= .int NF i->∀j,i<=j->j<n->iy V ba j:=by
 intro d
 induction d with
 |zero=>intro i m hd _ _ _ _ j hj _;omega
 |succ d ih=>
  intro i m hd h m3 W F;have hi:i<n:=OA
  have h:=h.ctl p z λa A=>XJ
  have h:=h.ctl p z λa A=>UQ
  obtain⟨v,V1,r,B⟩:=OnWay.val (ops:=kTest) (d:=13) (X:=Go.binOp .lss 3 (m 12) (m 10)) p (show OnWay E cs m (.inRegion kTest (0::[])::_) V from h) rfl OB rfl rfl OC rfl;rw[F,W]at r;obtain⟨M,O⟩:v= .bool (decide ((i:Int)<n))/\V1=V:=by
   refine valF (V1:=V) ?_ r;simp[Go.binOp,go_sem]
  rw[M,O,show decide ((i:Int)<n)=Z from VB OA]at B;have h:=B;clear B r M O;have h:=h.ctl p z λa A=>XD
  have h:=h.ctl p z λa A=>XJ
  have h:=h.cond p z (t:=Z) rfl;rw[YZ rfl]at h;have h:=h.ctl p z λa A=>UY
  have h:=h.ctl p z λa A=>XJ
  have h:=h.ctl p z λa A=>UQ
  obtain⟨ad,H,x1,x2,x3,x4,m',rfl,c0,c1,c2,c3,c4,h,e3,a0,a3,a2,a1⟩:=na p hi hl (cap:=cap) (by exact m3) (by exact F) h;have h:=h.ctl p z λa A=>XD
  have h:=h.ctl p z λa A=>XJ
  have h:=h.cond p z (t:=decide (0<=H)) (show Ri m' (.tmp 28)=_ from a2)
  have p0:0<=H:=VQ λp0=>by
   rw[XV p0,XB OC]at h;exact h.refuse p (by rfl)
  rw[VB p0,YZ rfl]at h;have h:=h.ctl p z λa A=>UY
  have h:=h.ctl p z λa A=>XJ
  have h:=h.cond p z (t:=decide (H<=90)) (show Ri m' (.tmp 29)=_ from a1)
  have p1:H<=90:=VQ λp1=>by
   rw[XV p1,XB OC]at h;exact h.refuse p (by rfl)
  rw[VB p1,YZ rfl]at h;have h:=h.ctl p z λa A=>UY
  have h:=h.ctl p z λa A=>UQ
  have T:m' 12= .int NF i:=a3.trans F;obtain⟨v,V1,r,B⟩:=OnWay.val (ops:=kNext) (d:=30) (X:=Go.binOp .add 3 (m' 12) (.int NF 1)) p (show OnWay E cs m' (.inRegion kNext (0::[1])::_) V from h) rfl OB rfl rfl OC rfl;rw[T]at r;obtain⟨M,O⟩:v= .int NF (i+1)/\V1=V:=by
   exact valF (V1:=V) (run_add1 i OA V) r
  rw[M,O]at B;obtain⟨v2,V2,r2,h2⟩:=OnWay.val (ops:=kNext) (d:=12) (X:=Pure.pure (.int NF (i+1))) p B rfl OB rfl rfl OC rfl;obtain⟨L,Y⟩:v2= .int NF (i+1)/\V2=V:=valF (V1:=V) rfl r2;rw[L,Y]at h2;have h:=h2;clear B h2 r r2 M O L Y;have h:=h.ctl p z λa A=>XD
  have h:=h.ctl p z λa A=>stepG_inLoop
  intro j hj Rr;rcases Nat.eq_or_lt_of_le hj with e|A5
  .subst e;exact⟨ad,H,x1,x2,x3,x4,rfl,p0,p1,c0,c1,c2,c3,c4⟩
  .exact ih (i+1) _ OA h (e3.trans m3) (a0.trans W) rfl j A5 Rr
def pre_k[GK]{E:NN->List NN->NL->Prop}{cs:List NN}{V:NL}{x:NM}(e:IsEnd E)(p:cs≠[trap])(hx:VRel id (Live V) x x)(h:At E U fs GK.gk (Frame.enter (Z6 U fs) 114 #[x] .normal) cs V):
 ∃(r0 r1 r2 r3:Int)(ad:Option NP)(n cap:Nat)(S:List Sh),x= .agg (Zh r0 r1 r2 r3 ad n cap)/\S.length=n/\n<=8/\Shots V ad S:=by
 rw[enterK]at h;have h:OnWay E cs (λi=>(aK x).eval (.tmp i)) [.code kBody] V:=⟨aK x,rfl,by funext o;cases o<;>rfl,h⟩;have h:=h.ctl e p λa z=>XJ
 have h:=h.ctl e p λa z=>UQ
 obtain⟨r0,r1,r2,r3,ad,n,cap,m',X,h,e3,H,B,F⟩:=iD e h;have X:x= .agg (Zh r0 r1 r2 r3 ad n cap):=X;rw[X]at hx;have h:=h.ctl e p λa z=>XD
 have h:=h.ctl e p λa z=>XJ
 have h:=h.cond e p (show Ri m' (.tmp 11)=_ from B)
 have hn:(n:Int)<=8:=VQ λhn=>by
  rw[XV hn,XB OC]at h;exact h.refuse e (by rfl)
 rw[VB hn,YZ rfl]at h;have h:=h.ctl e p λa z=>UY
 have h:=h.ctl e p λa z=>XJ
 have h:=h.ctl e p λa z=>stepG_block
 have h:=h.ctl e p λa z=>stepG_loop
 have hl:∀a,ad=J a->Live V a.block:=by
  intro a z;subst z;cases hx with
  |agg _ h2=>
   have:=h2 4 (by simp[Zh]);simp only[Zh]at this;cases this with|slice l c h=>exact h
 have L:=iA e p hl OA n 0 m' OA h e3 H (by simpa using F);clear h e3 H B F hl;have ap:∀b off j,Addr.add ⟨b,off,NB⟩ j=⟨b,off+j,NB⟩:=λb off j=>by unfold Addr.add;split<;>simp_all
 have W:∀j,∃s:Sh,j<n->∃b off,ad=J ⟨b,off,NB⟩/\b<V.heap.size/\s.c<=90/\ShotAt V b (off+j*5) s.c s.m s.M s.wi s.li:=by
  intro j;rcases VC j n with hj|hj
  rotate_left
  .exact⟨⟨0,0,0,0,0⟩,λh=>by omega⟩
  obtain⟨⟨b,off,T⟩,x0,x1,x2,x3,x4,e0,_,_,O,c1,c2,c3,c4⟩:=L j OA hj;obtain⟨_,_,_,_,_,_,e1,_,_,A,_⟩:=L 0 OA OA;have Dt:T=NB:=by
   rw[e0]at e1;cases e1;simp only[Nat.zero_mul]at A;have ea:(Addr.add (Addr.add ⟨b,off,T⟩ 0) 0)=⟨b,off,T⟩:=rfl;rw[ea]at A;cases T with
   |none=>rfl
   |some _=>
    unfold World.cell? at A;split at A
    .simp at A
    .cases A
  subst Dt;simp only[ap,RS,TA]at O c1 c2 c3 c4;have hb:b<V.heap.size:=by
   unfold World.cell? at O;split at O
   .rename_i hh;exact(YF.1 hh).1
   .cases O
  refine⟨⟨x0.toNat,x1,x2,x3,x4⟩,λ_=>⟨b,off,e0,hb,by simp only;omega,?_⟩⟩;have ex:((x0.toNat:Nat):Int)=x0:=OA
  exact⟨by simp only[ex];exact O,by simp only[TA];exact c1,by simp only[TA];exact c2,by simp only[TA];exact c3,by simp only[TA];exact c4⟩
 have hS:∀(i:Nat)(s:Sh),((List.range n).map λj=>Classical.choose (W j))[i]? =J s->i<n/\s=Classical.choose (W i):=by
  intro i s hi;rw[List.getElem?_map]at hi;obtain⟨y,hy,rfl⟩:=VA.1 hi;have Y:i<n:=by simpa using(YI.1 hy).1
  rw[List.getElem?_range Y]at hy;cases hy;exact⟨Y,rfl⟩
 refine⟨r0,r1,r2,r3,ad,n,cap,(List.range n).map λj=>Classical.choose (W j),X,OD,OA,λi s hi=> ?_⟩;obtain⟨Y,rfl⟩:=hS i s hi;exact QE (W i) Y
end Go.Proofs.Tryq
namespace Go.Proofs.Tryw
open Go Go.Nk Go.RowKit Go.Conc Go.Conc.Lib Go.ConcR.Gen Go.ConcN.Gen
open Go.ConcN (ShN WgLive PayAt Has CTag RW AtR0 AtK1)
open Go.ConcR (KK WgAt stA smA rd wr mk Payload DC0)
open Go.Proofs.Tryq (theBan ShotAt Zg Sh shL shH shO link payload wgLib PX KW ML)
attribute [local instance] kidBan
attribute [local instance] payload
noncomputable def body92:Code:=Tryz.f139.body.getD .skip
noncomputable def ops0:Array Oper:=match Tryz.f139.body with|some (.seq (.region _ o _) _)=>o|_=> #[]
noncomputable def ops1:Array Oper:=match Tryz.f139.body with|some (.seq _ (.region _ o _))=>o|_=> #[]
def body92_eq:body92= .seq (.region 0 ops0 I) (.region 1 ops1 Z):=rfl
def ops1_departs:Region.departs ops1=I:=OB
def ops1_size:ops1.size=7:=OB
def chk(b0 b1 b2 b3 b4 b5 b6:Bool)(i:Nat):Bool:=match i with
 |0=> !b0|1=> !b1|2=> !b2|3=> !b3|4=> !b4&&b2&&b3|5=> !b5&&b0&&b1|6=> !b6&&b4&&b5|_=>I
def eE(b0 b1 b2 b3 b4 b5 b6:Bool):(Region.ready .any ops1 #[b0,b1,b2,b3,b4,b5,b6]).all (chk b0 b1 b2 b3 b4 b5 b6)=Z:=by
 cases b0<;>cases b1<;>cases b2<;>cases b3<;>cases b4<;>cases b5<;>cases b6<;>kernel_rfl
def nv(b0 b1 b2 b3 b4 b5 b6:Bool):(!(Region.ready .any ops1 #[b0,b1,b2,b3,b4,b5,b6]).isEmpty||b6)=Z:=by
 cases b0<;>cases b1<;>cases b2<;>cases b3<;>cases b4<;>cases b5<;>cases b6<;>kernel_rfl
section
variable {R:(Nat->Prop)->NL->NL->Prop}{D:(Nat->Prop)->NL->NL->Array Event->Prop}{Stop:(Nat->Prop)->NR->NL->Prop}
def mO{k:List Item}(e:Array Bool->(Nat->Prop)->NV->NL->Prop)(μ:Array Bool->Nat)
 (T:∀l o a w i,e l o a w->i∈Region.ready .any ops l->μ (l.setIfInBounds i Z)<μ l)
 (O:∀l o a w,e l o a w->Region.ready .any ops l=[]->∃r,GoT P main R D Stop r o (G (b.at a (.inRegion ops []::k)) cs) w)
 (Y:∀l o a w i,e l o a w->i∈Region.ready .any ops l->∀rest,(∀B A z,e (l.setIfInBounds i Z) B A z->∃r,GoT P main R D Stop r B (G (b.at A (.inRegion ops rest::k)) cs) z)->
   ∃r,GoT P main R D Stop r o (G (b.at a (.inRegion ops (i::rest)::k)) cs) w):
 ∀(h t:Nat)(l:Array Bool)(o:Nat->Prop)(a:NV)(w:NL),μ l<=h->e l o a w->∃r,GoT P main R D Stop r o (G (b.at a (.inRegion ops (Region.linearise.go .any ops h t l [])::k)) cs) w:=by
 intro h
 induction h with
 |zero=>
  intro t l o a w W p;have L:Region.ready .any ops l=[]:=by
   cases hr:Region.ready .any ops l with|nil=>rfl|cons x F=>have:=T l o a w x p (by rw[hr];simp);omega
  simpa[Region.linearise.go]using O l o a w p L
 |succ h X=>
  intro t l o a w W p;simp only[Region.linearise.go]
  change ∃r,GoT P main R D Stop r o (G (b.at a (.inRegion ops (match (Region.ready .any ops l)[t % (Region.ready .any ops l).length]? with
   |some i=>Region.linearise.go .any ops h (t / (Region.ready .any ops l).length) (l.setIfInBounds i Z) [i]
   |none=>[].reverse)::k)) cs) w
  cases hi:(Region.ready .any ops l)[t % (Region.ready .any ops l).length]? with
  |none=>
   have L:Region.ready .any ops l=[]:=by
    cases hr:Region.ready .any ops l with
    |nil=>rfl
    |cons x F=>
     rw[hr]at hi;have A5:t % (x::F).length<(x::F).length:=Nat.mod_lt _ OD;rw[YH A5]at hi;cases hi
   simpa using O l o a w p L
  |some i=>
   have M:=YQ hi;simp only[];rw[linearise_go_acc,List.reverse_singleton,List.singleton_append];have:=T l o a w i p M;exact Y l o a w i p M _ λB A z H=>X _ _ B A z OA H
end
structure Kn(Bx Ob Ik C Wg Shb n k:Nat)(cc:Array NM)(ob:Obj)(w:NL):Prop where
 outv:w.cell? ⟨Ob,0,NB⟩=J (.slice (J C) n n)
 ib:w.cell? ⟨Ik,0,NB⟩=J (.int NF k)
 bx:∃f,w.heap[Bx]? =J (.cells cc 132 f)
 sh:w.heap[Shb]? =J ob
 size:Tryz.prog.globals.size<=w.heap.size/\C<w.heap.size
 live:WgLive link.tWg Wg w
 pay:PayAt C n w
section
variable {Bx k:Nat}{cc:Array NM}{Rd o:Nat->Prop}
def Mg{a:NP}(h:w₁.heap[a.block]? =w.heap[a.block]?):w₁.cell? a=w.cell? a:=by simp only[World.cell?,h]
def Kn.rely(h:Kn Bx Ob Ik C Wg Shb n k cc ob w)(e:RWo link.tWg Wg C n k Rd o w w₁)(A:Rd Ob)(p:Rd Ik)(B:Rd Bx)(z:Rd Shb):Kn Bx Ob Ik C Wg Shb n k cc ob w₁:=
 ⟨(Mg (e.rd _ A)).trans h.outv,(Mg (e.rd _ p)).trans h.ib,by rw[e.rd _ B];exact h.bx,(e.rd _ z).trans h.sh,⟨XC h.size.1 e.size,YS h.size.2 e.size⟩,e.live h.live,e.pay h.pay⟩
def mi(A:PayAt C n w)(v:NM):Go.ConcN.AsideCell C n k w (w.setCell ⟨C,k,NB⟩ v):=by
 have e:=TQ w ⟨C,k,NB⟩ v;obtain⟨arr,p,B⟩:=A;have z:(w.setCell ⟨C,k,NB⟩ v).heap[C]? =J (.cells (arr.setIfInBounds k v) Payload.ety):=by
  rw[setCell_eq_setRow w C k arr _ (0,0) _ p,setRow_heap w C _ _ _ _ p]
 refine⟨e.tape,e.os,e.output,e.size,λb h=>e.block b h,λ_=>⟨_,z,by simpa using B⟩,λ_ e=> ?_⟩;simp[World.cell?,z,p,YO (SJ e)]
def gS(h:PayAt C n w)(p:k<n)(v:NM):Has C k v (w.setCell ⟨C,k,NB⟩ v):=by
 obtain⟨arr,e,z⟩:=h;have A:(w.setCell ⟨C,k,NB⟩ v).heap[C]? =J (.cells (arr.setIfInBounds k v) Payload.ety):=by
  rw[setCell_eq_setRow w C k arr _ (0,0) _ e,setRow_heap w C _ _ _ _ e]
 simp[Has,World.cell?,A,z,p]
end
def o_0:∃o,ops1[0]? =J o/\o.dst=J 4/\o.op= .load 134 (.tmp 3)/\o.guard=NB:=⟨_,rfl,rfl,rfl,rfl⟩
def o_1:∃o,ops1[1]? =J o/\o.dst=J 5/\o.op= .load 3 (.tmp 2)/\o.guard=NB:=⟨_,rfl,rfl,rfl,rfl⟩
def o_2:∃o,ops1[2]? =J o/\o.dst=J 6/\o.op= .load 132 (.tmp 1)/\o.guard=NB:=⟨_,rfl,rfl,rfl,rfl⟩
def o_3:∃o,ops1[3]? =J o/\o.dst=J 7/\o.op= .load 3 (.tmp 2)/\o.guard=NB:=⟨_,rfl,rfl,rfl,rfl⟩
def o_4:∃o,ops1[4]? =J o/\o.dst=J 8/\o.op= .call {callee:= .value (.func 141),args:= #[.tmp 6,.tmp 7],argTypes:= #[132,3]}/\o.guard=NB:=⟨_,rfl,rfl,rfl,rfl⟩
def o_5:∃o,ops1[5]? =J o/\o.dst=J 9/\o.op= .indexAddr 134 (.tmp 4) (.tmp 5)/\o.guard=NB:=⟨_,rfl,rfl,rfl,rfl⟩
def o_6:∃o,ops1[6]? =J o/\o.dst=NB/\o.op= .store 188 (.tmp 9) (.tmp 8)/\o.guard=NB:=⟨_,rfl,rfl,rfl,rfl⟩
section
variable {o:Oper}
def Ft(z:t=134\/t=3)(p:o.op= .load t x)(A:a.eval x= .pointer (J ad))(h:w.cell? ad=J v):
 (NU a.eval o).run U w= .ok (.value v) w/\∀e∈(NU a.eval o).events U w #[],e=⟨.cell ad,I,I⟩:=by
 unfold NU;simp only[p,A];rcases z with rfl|rfl
 .constructor
  .simp[go_sem,Instr.loadAt,h]
  .intro e he;simp[go_sem,Instr.loadAt,h]at he;exact he
 .constructor
  .simp[go_sem,Instr.loadAt,h]
  .intro e he;simp[go_sem,Instr.loadAt,h]at he;exact he
theorem ld_card{Bx:Nat}{b:Nat}{f:Nat×Nat}(H:o.op= .load 132 x)(L:a.eval x= .pointer (J Bx))(h:w.heap[Bx]? =J (.cells (Zg r0 r1 r2 r3 b off n cap) 132 f)):
 (NU a.eval o).run U w= .ok (.value (.agg (Zg r0 r1 r2 r3 b off n cap))) w/\∀e∈(NU a.eval o).events U w #[],∃i,e=⟨.cell ⟨Bx,i,NB⟩,I,I⟩:=by
 have z:w.cell? ⟨Bx,0,NB⟩=J (.int NF r0):=by simp[World.cell?,h,Zg]
 have F:w.cell? ⟨Bx,1,NB⟩=J (.int NF r1):=by simp[World.cell?,h,Zg]
 have p:w.cell? ⟨Bx,2,NB⟩=J (.int NF r2):=by simp[World.cell?,h,Zg]
 have A:w.cell? ⟨Bx,3,NB⟩=J (.int NF r3):=by simp[World.cell?,h,Zg]
 have B:w.cell? ⟨Bx,4,NB⟩=J (.slice (J ⟨b,off,NB⟩) n cap):=by simp[World.cell?,h,Zg]
 unfold NU;simp only[H,L,Zg];constructor
 .simp[go_sem,Instr.loadAt,z,F,p,A,B]
 .intro e he;simp[go_sem,Instr.loadAt,z,F,p,A,B]at he;rcases he with rfl|rfl|rfl|rfl|rfl;all_goals exact⟨_,rfl⟩
def oK{k:Nat}(h:k<n)(p:o.op= .indexAddr 134 x y)(A:a.eval x= .slice (J C) n n)(z:a.eval y= .int NF k):
 (NU a.eval o).run U w= .ok (.value (.pointer (J ⟨C,k,NB⟩))) w/\∀e∈(NU a.eval o).events U w #[],False:=by
 have e1:Addr.add C k=⟨C,k,NB⟩:=by unfold Addr.add;split<;>simp_all
 unfold NU;simp only[p,A,z];constructor
 .simp[go_sem,Instr.indexAt,h,e1]
 .intro e he;simp[go_sem,Instr.indexAt,h,e1]at he
def my{k:Nat}(z:o.op= .store 188 x y)(B:a.eval x= .pointer (J ⟨C,k,NB⟩))(A:a.eval y= .pointer (J q))(h:w.cell? ⟨C,k,NB⟩=J u)(p:w.frozen? ⟨C,k,NB⟩=I):
 (NU a.eval o).run U w= .ok .skip (w.setCell ⟨C,k,NB⟩ (.pointer (J q)))/\∀e∈(NU a.eval o).events U w #[],e=⟨.cell ⟨C,k,NB⟩,Z,I⟩:=by
 unfold NU;simp only[z,B,A];constructor
 .simp[go_sem,Instr.storeAt,stored,h,p]
 .intro e he;simp[go_sem,Instr.storeAt,events_store U w #[] ⟨C,k,NB⟩ (.pointer (J q)) .plain rfl,storedEv,h,p]at he;exact he
def H5(B:o.op= .call {callee:= .value (.func 141),args:= #[x,y],argTypes:= #[132,3]})(L:a.eval x=u)(H:a.eval y=v):
 (NU a.eval o).run U w= .ok (.enter 141 #[u,v]) w/\∀e∈(NU a.eval o).events U w #[],False:=by
 have F:a.eval (.func 141)= .func (.func 141) #[] #[]:=rfl;have em:(#[x,y]:Array Operand).map a.eval= #[u,v]:=by simp only[TD,VG,VX,L,H]
 have z:¬Tryz.f141.body=NB:=λh=>by
  have p:Tryz.f141.body.isNone=I:=rfl;rw[h]at p;cases p
 have A:¬Tryz.f141.name= "runtime.NumGoroutine" :=by
  have:(Tryz.f141.name== "runtime.NumGoroutine")=I:=OB
  simpa using this
 unfold NU;simp only[B,resolve,em,F,Deferred.ofValue];constructor
 .simp[invoke,go_sem,callFunc,z,A]
 .intro e he;simp[invoke,go_sem,callFunc,z,A]at he
end
end Go.Proofs.Tryw
section
namespace Go.Proofs.Tryw
open Go Go.Nk Go.RowKit Go.Conc Go.Conc.Lib Go.ConcR.Gen Go.ConcN.Gen
open Go.ConcN (ShN WgLive PayAt Has CTag RW AtR0 AtK1)
open Go.ConcR (KK WgAt stA smA rd wr mk Payload DC0)
open Go.Proofs.Tryq (theBan ShotAt Zg Sh shL shH shO link payload wgLib PX KW ML)
attribute [local instance] kidBan
attribute [local instance] payload
structure KE where
 (Bx Ob Ik C Wg n k off cap sb:Nat)
 (r0 r1 r2 r3:Int)
 s:Sh
 V:NL
 ρ:Nat->Nat
 (Sb Rd L:Nat->Prop)
 (c c':Array NM)
 e:TypeId
 (f f':Nat×Nat)
namespace KE
def cc(K:KE):Array NM:=Zg K.r0 K.r1 K.r2 K.r3 (K.ρ K.sb) K.off K.n K.cap
structure Ok(K:KE):Prop where
 hk:K.k<K.n
 hat:K.s.c<=90
 hS:ShotAt K.V K.sb (K.off+K.k*5) K.s.c K.s.m K.s.M K.s.wi K.s.li
 hV:K.V.heap[K.sb]? =J (.cells K.c K.e K.f)
 har: @AR theBan K.ρ K.L K.c K.c'
 low:K.ρ K.sb<Tryz.prog.globals.size↔K.sb<Tryz.prog.globals.size
 hGV:Tryz.prog.globals.size<=K.V.heap.size
 rd:∀b,b=K.Ob\/b=K.Ik\/b=K.Bx\/b=K.ρ K.sb->K.Rd b/\¬K.Sb b
 ne:∀b,b=K.Wg\/b=K.Ob\/b=K.Ik\/b=K.Bx\/b=K.ρ K.sb->b≠K.C
abbrev Kno(K:KE)(w:NL):Prop:=Kn K.Bx K.Ob K.Ik K.C K.Wg (K.ρ K.sb) K.n K.k K.cc (.cells K.c' K.e K.f') w
abbrev R(K:KE):(Nat->Prop)->NL->NL->Prop:=RWo link.tWg K.Wg K.C K.n K.k K.Rd
abbrev D(K:KE):(Nat->Prop)->NL->NL->Array Event->Prop:=DWo K.Wg K.C K.n K.Sb K.k K.Rd
abbrev Fv(K:KE)(o:Nat->Prop)(β:Nat->Nat)(w:NL):Prop:=Five K.cc K.r0 K.r1 K.r2 K.r3 K.s o β w
def Res(K:KE)(o:Nat->Prop)(v:NM)(w:NL):Prop:=∃β,v= .pointer (J ⟨β 1,0,NB⟩)/\K.Fv o β w
structure Inv(K:KE)(b0 b1 b2 b3 b4 b5 b6:Bool)(o:Nat->Prop)(a:NV)(w:NL):Prop where
 size:a.tmps.size=10
 defers:a.defers=[dcall 140 #[.pointer (J K.Wg)]]
 t1:a.eval (.tmp 1)= .pointer (J K.Bx)
 t2:a.eval (.tmp 2)= .pointer (J K.Ik)
 t3:a.eval (.tmp 3)= .pointer (J K.Ob)
 kn:K.Kno w
 no:∀b,b=K.C\/b=K.Wg\/b=K.Ob\/b=K.Ik\/b=K.Bx\/b=K.ρ K.sb->¬o b
 v0:b0=Z->a.eval (.tmp 4)= .slice (J K.C) K.n K.n
 v1:b1=Z->a.eval (.tmp 5)= .int NF K.k
 v2:b2=Z->a.eval (.tmp 6)= .agg K.cc
 v3:b3=Z->a.eval (.tmp 7)= .int NF K.k
 v4:b4=Z->K.Res o (a.eval (.tmp 8)) w
 v5:b5=Z->a.eval (.tmp 9)= .pointer (J ⟨K.C,K.k,NB⟩)
 v6:b6=Z->∃v,K.Res o v w/\Has K.C K.k v w
section
variable {K:KE}{o:Nat->Prop}
def Res.own(h:K.Res o v w)(z:∀b,o b->w₁.heap[b]? =w.heap[b]?):K.Res o v w₁:=by
 obtain⟨β,e,p,A,B⟩:=h;exact⟨β,e,p,λj e=>(z _ (p j e)).trans (A j e),B⟩
def Inv.rely(p:K.Ok)(h:K.Inv b0 b1 b2 b3 b4 b5 b6 o a w)(e:K.R o w w₁):K.Inv b0 b1 b2 b3 b4 b5 b6 o a w₁:=
 ⟨h.size,h.defers,h.t1,h.t2,h.t3,h.kn.rely e (p.rd _ (.inl rfl)).1 (p.rd _ (.inr (.inl rfl))).1 (p.rd _ (.inr (.inr (.inl rfl)))).1 (p.rd _ (.inr (.inr (.inr rfl)))).1,h.no,h.v0,h.v1,h.v2,h.v3,λz=>(h.v4 z).own e.own,h.v5,
  λz=>let ⟨v,B,A⟩:=h.v6 z;⟨v,B.own e.own,e.cell.trans A⟩⟩
def dw_reads(H:K.Ok){z:Array Event}(h:∀e∈z,∃ad,e=⟨.cell ad,I,I⟩/\(ad.block=K.Ob\/ad.block=K.Ik\/ad.block=K.Bx))(M:∀b,b=K.Ob\/b=K.Ik\/b=K.Bx->b<w.heap.size):K.D o w w z:=by
 refine⟨λ_ _ _ _=>rfl,id,λ_ _=>rfl,XA _,rfl,rfl,rfl,λe B=> ?_⟩;obtain⟨ad,rfl,A⟩:=h e B;refine⟨⟨λx p=> ?_,by simp[T3]⟩,by simp only[SY,MemAct.low];exact M _ A⟩;simp only[SY,MemAct.touch?,XM]at p;subst p;obtain⟨L,F⟩:=H.rd ad.block (by rcases A with h|h|h<;>simp[h]);exact .inr (.inr (.inr ⟨.inl ⟨_,rfl,L⟩,by rintro⟨x,e,p⟩;cases e;exact F p,rfl⟩))
def Inv.lt(h:K.Inv b0 b1 b2 b3 b4 b5 b6 o a w):∀b,b=K.Ob\/b=K.Ik\/b=K.Bx->b<w.heap.size:=by
 have e:∀{ad:NP}{v:NM},w.cell? ad=J v->ad.block<w.heap.size:=by
  intro ad v p;unfold World.cell? at p;split at p
  .rename_i hh;exact(YF.1 hh).1
  .cases p
 rintro b (rfl|rfl|rfl)
 .exact e h.kn.outv
 .exact e h.kn.ib
 .obtain⟨f,hf⟩:=h.kn.bx;exact(YF.1 hf).1
end
end KE
section
variable {K:KE}{o:Nat->Prop}{rest:List Nat}{Stop:(Nat->Prop)->NR->NL->Prop}
def KP(p:K.Ok)(O:b.kind≠.early)(B:K.Inv b0 b1 b2 b3 b4 b5 b6 o a w)(F:ops1[i]? =J oo)(z:oo.dst=J d)(M:oo.guard=NB)
 (L:∀w₁,K.Inv b0 b1 b2 b3 b4 b5 b6 o a w₁->(NU a.eval oo).run U w₁= .ok (.value v) w₁/\∀e∈(NU a.eval oo).events U w₁ #[],∃ad,e=⟨.cell ad,I,I⟩/\(ad.block=K.Ob\/ad.block=K.Ik\/ad.block=K.Bx))
 (next:∀w₁,K.Inv b0 b1 b2 b3 b4 b5 b6 o a w₁->∃r,GoT U I K.R K.D Stop r o (G (b.at (a.put (J d) v) (.inRegion ops1 rest::kk)) cs) w₁):
 ∃r,GoT U I K.R K.D Stop r o (G (b.at a (.inRegion ops1 (i::rest)::kk)) cs) w:=by
 refine GoT.step rfl λw₁ A=> ?_
 have h:=B.rely p A;obtain⟨A,H⟩:=L w₁ h;obtain⟨r,T⟩:=next w₁ h
 refine⟨_,w₁,_,r,stepG_value F (PX M _) O A,KE.dw_reads p (λe A=>H e (RK A)) h.lt,?_⟩;rw[WI rfl,z];exact T
def DO:(a.put (J d) v).tmps.size=a.tmps.size:=by rw[ML];simp
def MB(h:K.Inv b0 b1 b2 b3 b4 b5 b6 o a w)(T:4<=d/\d<10)
 (M:b0'=Z->if d=4 then v= .slice (J K.C) K.n K.n else b0=Z)(H:b1'=Z->if d=5 then v= .int NF K.k else b1=Z)(B:b2'=Z->if d=6 then v= .agg K.cc else b2=Z)
 (O:b3'=Z->if d=7 then v= .int NF K.k else b3=Z)(F:b4'=Z->if d=8 then K.Res o v w else b4=Z)(L:b5'=Z->if d=9 then v= .pointer (J ⟨K.C,K.k,NB⟩)else b5=Z)(A:b6'=Z->b6=Z):
 K.Inv b0' b1' b2' b3' b4' b5' b6' o (a.put (J d) v) w:=by
 have z:∀i,(a.put (J d) v).eval (.tmp i)=if d=i then v else a.eval (.tmp i):=λi=>KW (by rw[h.size];omega)
 refine⟨DO.trans h.size,h.defers,?_,?_,?_,h.kn,h.no,λp=> ?_,λp=> ?_,λp=> ?_,λp=> ?_,λp=> ?_,λp=> ?_,λp=>h.v6 (A p)⟩
 .rw[z,XB OA];exact h.t1
 .rw[z,XB OA];exact h.t2
 .rw[z,XB OA];exact h.t3
 .have:=M p;rw[z];split at this
  .rename_i e;rw[YZ e];exact this
  .rename_i e;rw[XB e];exact h.v0 this
 .have:=H p;rw[z];split at this
  .rename_i e;rw[YZ e];exact this
  .rename_i e;rw[XB e];exact h.v1 this
 .have:=B p;rw[z];split at this
  .rename_i e;rw[YZ e];exact this
  .rename_i e;rw[XB e];exact h.v2 this
 .have:=O p;rw[z];split at this
  .rename_i e;rw[YZ e];exact this
  .rename_i e;rw[XB e];exact h.v3 this
 .have:=F p;rw[z];split at this
  .rename_i e;rw[YZ e];exact this
  .rename_i e;rw[XB e];exact h.v4 this
 .have:=L p;rw[z];split at this
  .rename_i e;rw[YZ e];exact this
  .rename_i e;rw[XB e];exact h.v5 this
def mK(T:K.Ok)(O:b4=I)(M:b6=I){A:NL}{W:Array Event}(e:K.Inv b0 b1 b2 b3 b4 b5 b6 o a w)(F:K.D o w A W):K.Inv b0 b1 b2 b3 b4 b5 b6 (grow o w A) a A:=by
 have p:=e.lt;have L:K.ρ K.sb<w.heap.size:=(YF.1 e.kn.sh).1;have H:K.Wg<w.heap.size:=by obtain⟨_,_,h⟩:=e.kn.live;exact(YF.1 h).1
 have z:∀b,b<w.heap.size->b=K.Wg\/b=K.Ob\/b=K.Ik\/b=K.Bx\/b=K.ρ K.sb->A.heap[b]? =w.heap[b]? :=λb B h=>F.stay b B (e.no b (.inr h)) (T.ne b h)
 refine⟨e.size,e.defers,e.t1,e.t2,e.t3,⟨(Mg (z _ (p _ (.inl rfl)) (.inr (.inl rfl)))).trans e.kn.outv,(Mg (z _ (p _ (.inr (.inl rfl))) (.inr (.inr (.inl rfl))))).trans e.kn.ib,?_,(z _ L (.inr (.inr (.inr (.inr rfl))))).trans e.kn.sh,
  ⟨XC e.kn.size.1 F.size,YS e.kn.size.2 F.size⟩,?_,F.pay e.kn.pay⟩,?_,e.v0,e.v1,e.v2,e.v3,(λh=>by rw[O]at h;cases h),e.v5,(λh=>by rw[M]at h;cases h)⟩
 .obtain⟨f,hf⟩:=e.kn.bx;exact⟨f,(z _ (p _ (.inr (.inr rfl))) (.inr (.inr (.inr (.inl rfl))))).trans hf⟩
 .obtain⟨x,y,h⟩:=e.kn.live;exact⟨x,y,(z _ H (.inl rfl)).trans h⟩
 .rintro b B (h|⟨h1,_⟩)
  .exact e.no b B h
  .have F2:b<w.heap.size:=by
    rcases B with rfl|rfl|rfl|rfl|rfl|rfl
    .exact e.kn.size.2
    .exact H
    .exact p _ (.inl rfl)
    .exact p _ (.inr (.inl rfl))
    .exact p _ (.inr (.inr rfl))
    .exact L
   omega
def carry{R:(Nat->Prop)->NL->NL->Prop}{D:(Nat->Prop)->NL->NL->Array Event->Prop}{Stop:(Nat->Prop)->NR->NL->Prop}{F:(Nat->Prop)->NL->Prop}(z:∀o a b,R o a b->F o a->F o b)(L:∀o a b A,D o a b A->F o a->F (grow o a b) b):
 ∀{r:Tr}{o:Nat->Prop}{g:NR}{w:NL},GoT P main R D Stop r o g w->F o w->GoT P main R D (λo g w=>Stop o g w/\F o w) r o g w:=by
 intro r
 induction r with
 |leaf=>exact λh p w₁ e=>⟨h w₁ e,z _ _ _ e p⟩
 |node f B=>
  intro o g w h p;rcases h with h|⟨H,h⟩
  .exact .inl λw₁ e=>⟨h w₁ e,z _ _ _ e p⟩
  .exact .inr ⟨H,λw₁ e=>LH (h w₁ e) λ_ _ A ⟨d,x⟩=>⟨d,B w₁ x (L _ _ _ _ d (z _ _ _ e p))⟩⟩
def lZ(e:fr.fn=141)(z:fr.kind= .normal)(h:fr.mode= .returning)(p:fr.defers=[]):stepG U I (G fr (c::cs)) w= .go (G (c.finish (fr.tmps.getD 4 NQ)) cs) w #[]:=by
 have A:(results Tryz.f141 fr.tmps).runT U w #[]=(.ok (fr.tmps.getD 4 NQ) w,#[]):=by simp[results,results94]
 have e1:stepG U I (G fr (c::cs)) w=unwind U I fr (c::cs) NB w:=by simp only[G,stepG,h]
 rw[e1];simp only[unwind,p,h,e,Tryz.func141,A,doReturn,z];simp[GStep.after,seen,G]
def qy(p:K.Ok)(X:b.kind≠.early)(h6:b6=I)(h4:b4=I)(W:b2=Z)(h3:b3=Z)(hI:K.Inv b0 b1 b2 b3 b4 b5 b6 o a w)
 (next:∀o w₁ v,K.Res o v w₁->K.Inv b0 b1 b2 b3 b4 b5 b6 o a w₁->∃r,GoT U I K.R K.D Stop r o (G (b.at (a.put (J 8) v) (.inRegion ops1 rest::kk)) cs) w₁):
 ∃r,GoT U I K.R K.D Stop r o (G (b.at a (.inRegion ops1 (4::rest)::kk)) cs) w:=by
 obtain⟨oo,M,T,e,Y⟩:=o_4;refine GoT.step rfl λw₁ h=> ?_
 have z:=hI.rely p h;obtain⟨e1,e2⟩:=H5 (w:=w₁) e (z.v2 W) (z.v3 h3);have e:=p.rd (K.ρ K.sb) (.inr (.inr (.inr rfl)));obtain⟨r1,A⟩:=kc (w:=w₁) (Wg:=K.Wg) (C:=K.C) (Sb:=K.Sb) (Rd:=K.Rd) (o:=o) (cap:=K.cap) (r0:=K.r0) (r1:=K.r1) (r2:=K.r2) (r3:=K.r3) (bot':=b.at a (.inRegion ops1 (4::rest)::kk)::cs) p.hk p.hat p.hS p.hV z.kn.sh p.har p.low p.hGV z.kn.size.1 e.1 e.2 z.kn.size.2 (z.no _ (.inl rfl));have B:=carry (F:=λo w=>K.Inv b0 b1 b2 b3 b4 b5 b6 o a w) (λ_ _ _ h e=>KE.Inv.rely p e h) (λ_ _ _ _ h e=>mK p h4 h6 e h) A z
 obtain⟨r,hr⟩:=B.seq (Stop':=Stop) RWo.refl λL _ w2 h=>by
  obtain⟨⟨fr,β,rfl,H,B,hm,A,hv,h5⟩,Rt⟩:=h;refine GoT.step rfl λe O=> ?_
  have h:=Rt.rely p O;have B6:K.Res L (fr.tmps.getD 4 NQ) e:=KE.Res.own (w:=w2) ⟨β,hv,h5⟩ O.own;obtain⟨r,O⟩:=next L e _ B6 h
  refine⟨_,e,_,r,lZ H B hm A,KE.dw_reads p (λe A=>by simp at A) h.lt,?_⟩;rw[WI rfl,QP,M];simp only[SK,T];exact O
 refine⟨_,w₁,_,r,stepG_enter M (PX Y _) X e1,KE.dw_reads p (λe A=>(e2 e (RK A)).elim) z.lt,?_⟩;rw[WI rfl];exact hr
end
end Go.Proofs.Tryw
end
namespace Go.Proofs.Tryw
open Go Go.Nk Go.RowKit Go.Conc Go.Conc.Lib Go.ConcR.Gen Go.ConcN.Gen
open Go.ConcN (ShN WgLive PayAt Has CTag RW AtR0 AtK1)
open Go.ConcR (KK WgAt stA smA rd wr mk Payload DC0)
open Go.Proofs.Tryq (theBan ShotAt Zg Sh shL shH shO link payload wgLib PX KW ML)
attribute [local instance] kidBan
attribute [local instance] payload
section
variable {K:KE}{o:Nat->Prop}{rest:List Nat}{Stop:(Nat->Prop)->NR->NL->Prop}
def eF(F:K.Ok)(X:b.kind≠.early)(h4:b4=Z)(h5:b5=Z)(hI:K.Inv b0 b1 b2 b3 b4 b5 b6 o a w)
 (next:∀w₁,K.Inv b0 b1 b2 b3 b4 b5 Z o a w₁->∃r,GoT U I K.R K.D Stop r o (G (b.at a (.inRegion ops1 rest::kk)) cs) w₁):
 ∃r,GoT U I K.R K.D Stop r o (G (b.at a (.inRegion ops1 (6::rest)::kk)) cs) w:=by
 obtain⟨oo,ho,W,A4,Y⟩:=o_6;refine GoT.step rfl λw₁ hw=> ?_
 have p:=hI.rely F hw;obtain⟨β,L,H⟩:=p.v4 h4;have B6:K.Res o (a.eval (.tmp 8)) w₁:=⟨β,L,H⟩;obtain⟨arr,T,Tt⟩:=p.kn.pay;have Dn:=F.hk;have hc:w₁.cell? ⟨K.C,K.k,NB⟩=J (arr[K.k]'OA):=by simp[World.cell?,T,Tt,Dn]
 have hz:w₁.frozen? ⟨K.C,K.k,NB⟩=I:=by simp[World.frozen?,T]
 obtain⟨e1,e2⟩:=my (w:=w₁) A4 (p.v5 h5) L hc hz;have z:=mi (k:=K.k) p.kn.pay (.pointer (J ⟨β 1,0,NB⟩));have hH:=gS p.kn.pay F.hk (.pointer (J ⟨β 1,0,NB⟩));have Rn:=p.no _ (.inl rfl);have O:∀x,o x->(w₁.setCell ⟨K.C,K.k,NB⟩ (.pointer (J ⟨β 1,0,NB⟩))).heap[x]? =w₁.heap[x]? :=λx A=>z.block x (λe=>Rn (e▸A))
 have B:=λx A=>z.block x (F.ne x A)
 have K1:grow o w₁ (w₁.setCell ⟨K.C,K.k,NB⟩ (.pointer (J ⟨β 1,0,NB⟩)))=o:=WI z.size;have Rt:K.Inv b0 b1 b2 b3 b4 b5 Z o a (w₁.setCell ⟨K.C,K.k,NB⟩ (.pointer (J ⟨β 1,0,NB⟩))):=by
  refine⟨p.size,p.defers,p.t1,p.t2,p.t3,⟨(Mg (B _ (.inr (.inl rfl)))).trans p.kn.outv,(Mg (B _ (.inr (.inr (.inl rfl))))).trans p.kn.ib,?_,(B _ (.inr (.inr (.inr (.inr rfl))))).trans p.kn.sh,by rw[z.size];exact p.kn.size,?_,z.pay p.kn.pay⟩,
   p.no,p.v0,p.v1,p.v2,p.v3,λh=>(p.v4 h).own O,p.v5,λ_=>⟨_,B6.own O,by rw[L];exact hH⟩⟩
  .obtain⟨f,hf⟩:=p.kn.bx;exact⟨f,(B _ (.inr (.inr (.inr (.inl rfl))))).trans hf⟩
  .obtain⟨x,y,h⟩:=p.kn.live;exact⟨x,y,(B _ (.inl rfl)).trans h⟩
 obtain⟨r,hn⟩:=next _ Rt
 refine⟨_,_,_,r,stepG_none ho (PX Y _) X e1,⟨λx _ _ A=>z.block x A,z.pay,z.cells,SH z.size.symm,z.tape,z.os,z.output,λe M=> ?_⟩,?_⟩
 .have M:=e2 e (RK M);subst M;refine⟨⟨λx A=> ?_,by simp[T3]⟩,by simp only[SY,MemAct.low];rw[z.size];exact p.kn.size.2⟩;simp only[SY,MemAct.touch?,XM]at A;subst A;exact .inr (.inr (.inl rfl))
 .rw[K1,W];exact hn
def qY(M:K.Ok)(O:b.kind≠.early)(W:Bool)(t:Nat)(z:K.Inv I I I I I I I o a w)
 (Cs:∀b0 b1 b2 b3 b4 b5 o a w,K.Inv b0 b1 b2 b3 b4 b5 Z o a w->∃r,GoT U I K.R K.D Stop r o (G (b.at a (.inRegion ops1 []::kk)) cs) w):
 ∃r,GoT U I K.R K.D Stop r o (G (b.at a (.inRegion ops1 (Region.schedule W ops1 t)::kk)) cs) w:=by
 have hs:Region.schedule W ops1 t=Region.linearise.go .any ops1 7 t #[I,I,I,I,I,I,I] []:=by
  simp only[Region.schedule,ops1_departs,Bool.not_false,Bool.or_true,XY,Region.linearise,ops1_size];rfl
 rw[hs];have X:∀{b0 b1 b2 b3 b4 b5 b6:Bool}{i:Nat},i∈Region.ready .any ops1 #[b0,b1,b2,b3,b4,b5,b6]->chk b0 b1 b2 b3 b4 b5 b6 i=Z:=λh=>YL.1 (eE _ _ _ _ _ _ _) _ h
 refine mO (λl o a w=>∃b0 b1 b2 b3 b4 b5 b6,l= #[b0,b1,b2,b3,b4,b5,b6]/\(b6=Z->b4=Z)/\K.Inv b0 b1 b2 b3 b4 b5 b6 o a w) (λl=>(l.toList.filter (λx=> !x)).length) ?_ ?_ ?_ 7 t _ o a w OC ⟨_,_,_,_,_,_,_,rfl,(λh=>by cases h),z⟩
 .rintro l o a w i ⟨b0,b1,b2,b3,b4,b5,b6,rfl,_,_⟩ hi;have h:=X hi
  match i,h with
  |0,h=>simp only[chk,XZ]at h;subst h;simp
  |1,h=>simp only[chk,XZ]at h;subst h;cases b0<;>simp
  |2,h=>simp only[chk,XZ]at h;subst h;cases b0<;>cases b1<;>simp
  |3,h=>simp only[chk,XZ]at h;subst h;cases b0<;>cases b1<;>cases b2<;>simp
  |4,h=>simp only[chk,YG,XZ]at h;obtain⟨⟨rfl,rfl⟩,rfl⟩:=h;cases b0<;>cases b1<;>simp
  |5,h=>simp only[chk,YG,XZ]at h;obtain⟨⟨rfl,rfl⟩,rfl⟩:=h;cases b2<;>cases b3<;>cases b4<;>simp
  |6,h=>simp only[chk,YG,XZ]at h;obtain⟨⟨rfl,rfl⟩,rfl⟩:=h;cases b0<;>cases b1<;>cases b2<;>cases b3<;>simp
  |n+7,h=>cases h
 .rintro l o a w ⟨b0,b1,b2,b3,b4,b5,b6,rfl,_,z⟩ hr;have h:=nv b0 b1 b2 b3 b4 b5 b6;rw[hr]at h;simp only[List.isEmpty_nil,SZ,TU]at h;subst h;exact Cs _ _ _ _ _ _ o a w z
 .rintro l o a w i ⟨b0,b1,b2,b3,b4,b5,b6,rfl,T,z⟩ hi rest next
  have h:=X hi
  match i,h with
  |0,h=>
   obtain⟨oo,H,A,F,B⟩:=o_0;refine KP M O z H A B (v:= .slice (J K.C) K.n K.n) (λw₁ p=> ?_) (λw₁ p=>next o _ w₁ ⟨Z,b1,b2,b3,b4,b5,b6,rfl,T,MB p OA (λ_=>by simp) (λh=>by simpa using h) (λh=>by simpa using h) (λh=>by simpa using h) (λh=>by simpa using h) (λh=>by simpa using h) id⟩);obtain⟨e1,e2⟩:=Ft (.inl rfl) F p.t3 p.kn.outv;exact⟨e1,λe L=>⟨_,e2 e L,.inl rfl⟩⟩
  |1,h=>
   obtain⟨oo,H,A,F,B⟩:=o_1;refine KP M O z H A B (v:= .int NF K.k) (λw₁ p=> ?_) (λw₁ p=>next o _ w₁ ⟨b0,Z,b2,b3,b4,b5,b6,rfl,T,MB p OA (λh=>by simpa using h) (λ_=>by simp) (λh=>by simpa using h) (λh=>by simpa using h) (λh=>by simpa using h) (λh=>by simpa using h) id⟩);obtain⟨e1,e2⟩:=Ft (.inr rfl) F p.t2 p.kn.ib;exact⟨e1,λe L=>⟨_,e2 e L,.inr (.inl rfl)⟩⟩
  |2,h=>
   obtain⟨oo,H,A,F,B⟩:=o_2;refine KP M O z H A B (v:= .agg K.cc) (λw₁ p=> ?_) (λw₁ p=>next o _ w₁ ⟨b0,b1,Z,b3,b4,b5,b6,rfl,T,MB p OA (λh=>by simpa using h) (λh=>by simpa using h) (λ_=>by simp) (λh=>by simpa using h) (λh=>by simpa using h) (λh=>by simpa using h) id⟩);obtain⟨f,hf⟩:=p.kn.bx;obtain⟨e1,e2⟩:=ld_card F p.t1 hf;exact⟨e1,λe L=>let ⟨i,hi⟩:=e2 e L;⟨_,hi,.inr (.inr rfl)⟩⟩
  |3,h=>
   obtain⟨oo,H,A,F,B⟩:=o_3;refine KP M O z H A B (v:= .int NF K.k) (λw₁ p=> ?_) (λw₁ p=>next o _ w₁ ⟨b0,b1,b2,Z,b4,b5,b6,rfl,T,MB p OA (λh=>by simpa using h) (λh=>by simpa using h) (λh=>by simpa using h) (λ_=>by simp) (λh=>by simpa using h) (λh=>by simpa using h) id⟩);obtain⟨e1,e2⟩:=Ft (.inr rfl) F p.t2 p.kn.ib;exact⟨e1,λe L=>⟨_,e2 e L,.inr (.inl rfl)⟩⟩
  |4,h=>
   simp only[chk,YG,XZ]at h;have Y:=h.1.1;have h6:b6=I:=by
    cases b6 with|false=>rfl|true=>rw[Y]at T;cases T rfl
   exact qy M O h6 h.1.1 h.1.2 h.2 z λo w₁ v hv p=>next o _ w₁ ⟨b0,b1,b2,b3,Z,b5,b6,rfl,λ_=>rfl,MB p OA (λh=>by simpa using h) (λh=>by simpa using h) (λh=>by simpa using h) (λh=>by simpa using h) (λ_=>by simpa using hv) (λh=>by simpa using h) id⟩
  |5,h=>
   simp only[chk,YG,XZ]at h;obtain⟨oo,H,A,F,B⟩:=o_5;refine KP M O z H A B (v:= .pointer (J ⟨K.C,K.k,NB⟩)) (λw₁ p=> ?_) (λw₁ p=>next o _ w₁ ⟨b0,b1,b2,b3,b4,Z,b6,rfl,T,MB p OA (λh=>by simpa using h) (λh=>by simpa using h) (λh=>by simpa using h) (λh=>by simpa using h) (λh=>by simpa using h) (λ_=>by simp) id⟩);obtain⟨e1,e2⟩:=oK M.hk F (p.v0 h.1.2) (p.v1 h.2);exact⟨e1,λe L=>(e2 e L).elim⟩
  |6,h=>
   simp only[chk,YG,XZ]at h;exact eF M O h.1.2 h.2 z λw₁ p=>next o a w₁ ⟨b0,b1,b2,b3,b4,b5,Z,rfl,λ_=>h.1.2,p⟩
  |n+7,h=>cases h
end
section
variable {K:KE}{o:Nat->Prop}{Stop:(Nat->Prop)->NR->NL->Prop}
def PT{F:(Nat->Prop)->NL->Prop}(H:∀o w w₁,K.R o w w₁->F o w->F o w₁){g z:NR}(B:g.status= .running)(p:∀w,stepG U I g w= .go z w #[])(h:F o w)
 (next:∀w₁,F o w₁->∃r,GoT U I K.R K.D Stop r o z w₁):∃r,GoT U I K.R K.D Stop r o g w:=by
 refine GoT.step B λw₁ e=> ?_
 obtain⟨r,A⟩:=next w₁ (H _ _ _ e h)
 exact⟨_,w₁,_,r,p w₁,⟨λ_ _ _ _=>rfl,id,λ_ _=>rfl,XA _,rfl,rfl,rfl,λe e=>by simp at e⟩,by rw[WI rfl];exact A⟩
def b92:NN:=baseD 139
noncomputable def bot:NN:={(default:NN)with fn:=Tryz.prog.funcs.size,defers:=[],mode:= .panicking [goexitEntry]}
def call79(K:KE):Deferred:={target:= .fn (.func 139) #[.pointer (J K.Wg),.pointer (J K.Bx),.pointer (J K.Ik),.pointer (J K.Ob)],args:= #[]}
def L8(K:KE):Array NM:= #[.pointer (J K.Wg),.pointer (J K.Bx),.pointer (J K.Ik),.pointer (J K.Ob),NQ,NQ,NQ,NQ,NQ,NQ]
def f92_body:Tryz.f139.body=J body92:=rfl
def f92_name:¬Tryz.f139.name= "runtime.NumGoroutine" :=by
 have:(Tryz.f139.name== "runtime.NumGoroutine")=I:=OB
 simpa using this
def f92_ntmps:Tryz.f139.ntmps=10:=rfl
def kK(w:NL):stepG U I (born U (call79 K)) w= .go (G (b92.at ⟨L8 K,[]⟩ [.code body92]) [bot]) w #[]:=by
 simp[born,call79,stepG,unwind,callDeferred,invoke,callFunc,Tryz.func139,f92_body,f92_name,f92_ntmps,seen,GStep.after,G,Frame.enter,Frame.at,b92,baseD,bot,L8]
def iP(T:Array NM):QuitsD U 2 0 (G {b92.at ⟨T,[]⟩ []with mode:= .returning} [bot]):=by
 have e:Tryz.f139.results= #[]:=rfl;refine QuitsD.ctl (g':=G bot []) rfl (λw=> ?_) ?_
 .simp[G,stepG,unwind,doReturn,results,Frame.at,b92,baseD,bot,Tryz.func139,e,seen,GStep.after,goexitEntry]
 refine QuitsD.ctl (g':={G bot []with status:= .finished}) rfl (λw=> ?_) ⟨rfl,rfl⟩;simp[G,stepG,unwind,bot,goexitEntry,Frame.catches];rfl
end
section
variable {K:KE}{o:Nat->Prop}
def o_d:∃o,ops0[0]? =J o/\o.dst=NB/\o.op= .defer {callee:= .value (.func 140),args:= #[.tmp 0],argTypes:= #[243]}/\o.guard=NB:=⟨_,rfl,rfl,rfl,rfl⟩
def ops0_size:ops0.size=1:=OB
def iw{k:List Item}{id:Nat}:
 stepG P main (G (b.at a (.code (.region id ops Z)::k)) cs) w= .go (G (b.at a (.inRegion ops (Region.schedule (P.follows .mixedOrders) ops (w.tape w.drawn (.order b.fn id)))::k)) cs) {w with drawn:=w.drawn+1} #[]:=by
 simp[G,stepG,stepG.exec,Frame.at,choose,Sem.run,Question.forced,Question.cut]
def Base(K:KE)(o:Nat->Prop)(w:NL):Prop:=K.Kno w/\∀b,b=K.C\/b=K.Wg\/b=K.Ob\/b=K.Ik\/b=K.Bx\/b=K.ρ K.sb->¬o b
def Base.rely(e:K.Ok):∀o w w₁,K.R o w w₁->Base K o w->Base K o w₁:=λo w w₁ p h=>
 ⟨h.1.rely p (e.rd _ (.inl rfl)).1 (e.rd _ (.inr (.inl rfl))).1 (e.rd _ (.inr (.inr (.inl rfl)))).1 (e.rd _ (.inr (.inr (.inr rfl)))).1,h.2⟩
def kid_works(O:K.Ok)(z:Base K o w):
 ∃r,GoT U I K.R K.D (λo g w=>∃v,K.Res o v w/\AtR0 U link.tWg K.Wg K.C K.n 0 (K.k+1) v g w) r o (born U (call79 K)) w:=by
 have A:=Base.rely O;refine PT A rfl kK z λw z=> ?_
 rw[body92_eq];refine PT A rfl (λw=>XJ) z λw z=> ?_
 refine PT A rfl (λw=>UQ) z λw z=> ?_
 obtain⟨oo,ho,T,A4,X⟩:=o_d;rw[ops0_size];refine PT A rfl (λw=>stepG_defer (i:=0) (rest:=[]) ho (PX X _) OC A4) z λw z=> ?_
 refine PT A rfl (λw=>XD) z λw z=> ?_
 refine GoT.step rfl λw₁ hw=> ?_
 have B:=A _ _ _ hw z;have p:K.Inv I I I I I I I o (Act.put ⟨L8 K,dcall 140 ((#[.tmp 0]:Array Operand).map (Act.eval ⟨L8 K,[]⟩))::[]⟩ oo.dst NQ) {w₁ with drawn:=w₁.drawn+1}:=by
  rw[T];refine⟨rfl,by simp[Act.put,Act.eval,L8],rfl,rfl,rfl,?_,B.2,(λh=>by cases h),(λh=>by cases h),(λh=>by cases h),(λh=>by cases h),(λh=>by cases h),(λh=>by cases h),(λh=>by cases h)⟩;have h:=B.1;exact⟨h.outv,h.ib,h.bx,h.sh,h.size,h.live,h.pay⟩
 obtain⟨r,H⟩:=qY (b:=b92) (kk:=[]) (cs:=[bot]) (Stop:=λo g w=>∃v,K.Res o v w/\AtR0 U link.tWg K.Wg K.C K.n 0 (K.k+1) v g w) O OC (Tryz.prog.follows .mixedOrders) (w₁.tape w₁.drawn (.order b92.fn 1)) p λb0 b1 b2 b3 b4 b5 o a w p=>by
  have M:=fun(o:Nat->Prop)(w w₁:NL)(H:K.R o w w₁)(h:K.Inv b0 b1 b2 b3 b4 b5 Z o a w)=>KE.Inv.rely O h H
  refine PT M rfl (λw=>XD) p λw p=> ?_
  refine PT M rfl (λw=>stepG_end) p λw p=> ?_
  refine PT M rfl (λw=>stepG_unwind_enter p.defers wgLib.f_done (nm_done link) rfl) p λw p=> ?_
  obtain⟨v,h1,W⟩:=p.v6 rfl;have hG:=doneM (L:=link) (n:=K.n) (val:=v) wgLib (c:={b92.at ⟨a.tmps,[]⟩ []with mode:= .returning}) (cs:=[bot]) rfl (iP _) w ⟨p.kn.live,W⟩;exact⟨_,je (F:=λw=>K.Res o v w) (λa b H h=>KE.Res.own h H.own) (λg w hs h=>⟨v,h,hs⟩) hG h1⟩
 refine⟨_,_,_,r,iw,⟨λ_ _ _ _=>rfl,id,λ_ _=>rfl,XA _,rfl,rfl,rfl,λe he=>by simp at he⟩,?_⟩;have Y:grow o w₁ {w₁ with drawn:=w₁.drawn+1}=o:=WI rfl;rw[Y];exact H
end
end Go.Proofs.Tryw
