import Derived.Test.YthahddndgbpooaaGreatDoorNk24
set_option linter.all false
set_option maxRecDepth 100000
set_option maxHeartbeats 4000000
open Go
open Go.IntKind renaming i64->I
open Option renaming some->J,none->NB
open Go renaming World->U,Value->NM,Calls->NW,Frame->NN,undef->NQ,Act->NV,Addr->NP,Goroutine->NR,FuncId->NS,execOp->NU
open Go.Obj renaming cells->Z
open Bool renaming false->ND,true->NC
open Go.Ending renaming returned->NK
variable {ops:Array Oper}{C:Array NM}{main:Bool}{c x y:Code}{fn:Func}{f:NS}{B b m:Nat}{Sb:Nat->Prop}{P:Program}{r tr:Tmp}{t:Trace}{R:NM->U->Prop}{w w':U}
namespace Go.Proofs.Tryq
open Go.Nk Go.RowKit
variable [Tw]
def BC(f:Nat)(a b c d:Int)(w:U):(Op.equalIn (f+1+1) 49 (.agg #[a,b]) (.agg #[c,d])).run gp w= .ok (a==c&&b==d) w:=by
 have u3:gp.underlying 3=J (.int I):=(underlying_eq 3).trans Tryz.underlying3;have e:=Tryz.isAgg3;have e:=Tryz.sizeOf3;have g:gp.underlying 49=J (.struct (gp.fieldsOf 49)):=OB
 have e:gp.stoodInHeld 49=ND:=OB
 rw[RA w (f+1) 49 _ _ g e];simp only[Program.fieldsOf,underlying_eq,Tryz.underlying49];go_simp;by_cases g:a=c<;>by_cases e:b=d<;>simp[g,e]
@[go_sem] def eq23 (a b c d:Int) (w:U):(Op.equalIn 10000 23 (.agg #[a,b,c,d]) (.agg #[a,b,c,d])).run gp w= .ok NC w:=by
  have u3:gp.underlying 3=J (.int I):=(underlying_eq 3).trans Tryz.underlying3;have e:=Tryz.isAgg3;have e:=Tryz.sizeOf3;have g:gp.underlying 23=J (.struct (gp.fieldsOf 23)):=OB
  have e:gp.stoodInHeld 23=ND:=OB
  rw[show(10000:Nat)=9999+1 from rfl,RA w 9999 23 _ _ g e];simp only[Program.fieldsOf,underlying_eq,Tryz.underlying23];go_simp
@[go_sem] def guard23 (op:BinOp) (p q:Operand) (e d:Array NM) (w:U):(eqGuard op 23 p q (.agg e) (.agg d)).run gp w= .ok () w:=RO w op 23 p q e d OB
@[go_sem] def eq51 (s:ByteArray) (a b c d e f:Int) (w:U):(Op.equalIn 10000 51 (.agg #[.string s,a,b,c,d,e,f]) (.agg #[.string s,a,b,c,d,e,f])).run gp w= .ok NC w:=by
  have g:=Tryz.isAgg49;have g:=Tryz.sizeOf49;have h:gp.underlying 51=J (.struct (gp.fieldsOf 51)):=OB
  have g:gp.stoodInHeld 51=ND:=OB
  have i:=λa b=>BC 9997 a b a b w
  rw[show(10000:Nat)=9999+1 from rfl,RA w 9999 51 _ _ h g];simp only[Program.fieldsOf,underlying_eq,Tryz.underlying51];go_simp
@[go_sem] def guard51 (op:BinOp) (p q:Operand) (e d:Array NM) (w:U):(eqGuard op 51 p q (.agg e) (.agg d)).run gp w= .ok () w:=RO w op 51 p q e d OB
def qB(a b c m:Int)(e d:Option NP)(n u p:Nat)(L:List Sf)(w:U)(hn:L.length=n)(hb:n<=1000)(V:RawA w e L)(A:RawA w d L):
 NW gp 13 #[.agg #[a,b,c,m,.slice e n u],.agg #[a,b,c,m,.slice d n p]] w (OI (.bool NC) w):=by
 have h:=((Ext.rfl' w).alloc (Z #[a,b,c,m,.slice e n u] 26)).alloc (Z #[a,b,c,m,.slice d n p] 26);have g:((w.alloc (Z #[a,b,c,m,.slice e n u] 26)).alloc (Z #[a,b,c,m,.slice d n p] 26)).heap[w.heap.size]? =J (Z #[a,b,c,m,.slice e n u] 26):=by simp only[Z3,Z2];rw[XB OA,YZ trivial]
 have o:((w.alloc (Z #[a,b,c,m,.slice e n u] 26)).alloc (Z #[a,b,c,m,.slice d n p] 26)).heap[w.heap.size+1]? =J (Z #[a,b,c,m,.slice d n p] 26):=by simp only[Z3,Z2];rw[YZ trivial]
 replace hn:Hid (L.length=n):=hn;replace V:Hid (RawA w e L):=V;replace A:Hid (RawA w d L):=A;go_enter fk Tryz.func13,Tryz.ntmps13;go_wp2;generalize World.alloc _ (Z #[a,b,c,m,.slice d n p] 26)=i at h g o⊢;go_loopw [5] (λj wr=>∃i:Nat,i<=n/\j= .int I i/\Ext w wr/\wr.heap[w.heap.size]? =J (Z #[a,b,c,m,.slice e n u] 26)/\wr.heap[w.heap.size+1]? =J (Z #[a,b,c,m,.slice d n p] 26)) (λj _=>n - (intOf j).toNat)
 case atStart=>exact⟨0,OA,rfl,h,g,o⟩
 case round=>
  clear h g o;obtain⟨i,hi,rfl,z,g,o⟩:=hrel;obtain⟨p0,p1,p2,p3,p4⟩:=Xc g;obtain⟨q0,q1,q2,q3,q4⟩:=Xc o;by_cases h:i=n
  .subst h;go_wp2;go_ret;exact⟨rfl,z⟩
  .have A5:(i:Int)<(n:Int):=OA
   obtain⟨x,E⟩:∃x,L[i]? =J x:=⟨_,YH (by have:=hn.out;omega)⟩;obtain⟨_,_,rfl,_,j,_⟩:=(V.out.ext z) i x E;obtain⟨_,_,rfl,_,h,_⟩:=(A.out.ext z) i x E;have x0:=j.1;have x1:=j.2;have x2:=j.3;have x3:=j.4;have x4:=j.5;have x5:=j.6;have x6:=j.7;have y0:=h.1;have y1:=h.2;have y2:=h.3;have y3:=h.4;have y4:=h.5;have y5:=h.6;have y6:=h.7;clear E j h;have gp:=ZQ p4;have gq:=ZQ q4;have H:=ZQ x0;have a0:=ZQ x1;have E:=ZQ x2;have F:=ZQ x3;have a2:=ZQ x4;have Y:=ZQ x5;have T:=ZQ x6;have X:=ZQ y0;have j:=ZQ y1;have K:=ZQ y2;have a1:=ZQ y3;have M:=ZQ y4;have O:=ZQ y5;have a3:=ZQ y6;go_wp2_with fail;refine Z9 11 OB ?_;refine ZS [0,1,2,3,4,5,6,7,8,9,10] OB OB ?_;simp only[ZR,YB,YA,YK,YJ]
   repeat (go_big_quiet_step (fail))
   refine XI ?_;refine Yt OB (λW h=> ?_);have W:=z.trans h;replace g:=h.get g;replace o:=h.get o;clear p0 p1 p2 p3 p4 q0 q1 q2 q3 q4 gp gq H a0 E F a2 Y T X j K a1 M O a3 x0 x1 x2 x3 x4 x5 x6 y0 y1 y2 y3 y4 y5 y6 h z;go_wp2;exact⟨⟨i+1,OA,by push_cast;rfl,W,g,o⟩,by simp[intOf];omega⟩
end Go.Proofs.Tryq
namespace Go.Proofs.Tryp
open Go.Nk Go.RowKit Go.Shelf Go.Proofs Go.Proofs.Tryq
attribute [local instance] k3
@[go_sem] def eq28 (a b c d:Int) (w:U):(Op.equalIn 10000 28 (.agg #[a,b,c,d]) (.agg #[a,b,c,d])).run Tryp.prog w= .ok NC w:=by
  have u3:Tryp.prog.underlying 3=J (.int I):=(underlying_eq 3).trans Tryz.underlying3;have e:=Tryz.isAgg3;have e:=Tryz.sizeOf3;have g:Tryp.prog.underlying 28=J (.struct (Tryp.prog.fieldsOf 28)):=OB
  have e:Tryp.prog.stoodInHeld 28=ND:=OB
  rw[show(10000:Nat)=9999+1 from rfl,RA w 9999 28 _ _ g e];simp only[Program.fieldsOf,underlying_eq,Tryz.underlying28];go_simp
@[go_sem] def guard28 (op:BinOp) (p q:Operand) (e d:Array NM) (w:U):(eqGuard op 28 p q (.agg e) (.agg d)).run Tryp.prog w= .ok () w:=RO w op 28 p q e d OB
@[go_sem] def eq75 (a b c d e:Int) (w:U):(Op.equalIn 10000 75 (.agg #[a,b,c,d,e]) (.agg #[a,b,c,d,e])).run Tryp.prog w= .ok NC w:=by
  have u3:Tryp.prog.underlying 3=J (.int I):=(underlying_eq 3).trans Tryz.underlying3;have g:=Tryz.isAgg3;have g:=Tryz.sizeOf3;have g:=Tryz.isAgg49;have g:=Tryz.sizeOf49;have h:Tryp.prog.underlying 75=J (.struct (Tryp.prog.fieldsOf 75)):=OB
  have g:Tryp.prog.stoodInHeld 75=ND:=OB
  have i:=λa b=>BC 9997 a b a b w
  rw[show(10000:Nat)=9999+1 from rfl,RA w 9999 75 _ _ h g];simp only[Program.fieldsOf,underlying_eq,Tryz.underlying75];go_simp
@[go_sem] def guard75 (op:BinOp) (p q:Operand) (e d:Array NM) (w:U):(eqGuard op 75 p q (.agg e) (.agg d)).run Tryp.prog w= .ok () w:=RO w op 75 p q e d OB
def nC(a b c m:Int)(e d:Option NP)(n p j:Nat)(L:List Rs)(w:U)(Y:L.length=n)(hb:n<=1000)(O:RawS w e L)(A:RawS w d L):
 NW Tryp.prog 16 #[.agg #[a,b,c,m,.slice e n p],.agg #[a,b,c,m,.slice d n j]] w (OI (.bool NC) w):=by
 have o:=((Ext.rfl' w).alloc (Z #[a,b,c,m,.slice e n p] 31)).alloc (Z #[a,b,c,m,.slice d n j] 31);have g:((w.alloc (Z #[a,b,c,m,.slice e n p] 31)).alloc (Z #[a,b,c,m,.slice d n j] 31)).heap[w.heap.size]? =J (Z #[a,b,c,m,.slice e n p] 31):=by simp only[Z3,Z2];rw[XB OA,YZ trivial]
 have h:((w.alloc (Z #[a,b,c,m,.slice e n p] 31)).alloc (Z #[a,b,c,m,.slice d n j] 31)).heap[w.heap.size+1]? =J (Z #[a,b,c,m,.slice d n j] 31):=by simp only[Z3,Z2];rw[YZ trivial]
 replace Y:Hid (L.length=n):=Y;replace O:Hid (RawS w e L):=O;replace A:Hid (RawS w d L):=A;go_enter fq Tryz.func16,Tryz.ntmps16;go_wp2;generalize World.alloc _ (Z #[a,b,c,m,.slice d n j] 31)=i at o g h⊢;go_loopw [5] (λu wr=>∃i:Nat,i<=n/\u= .int I i/\Ext w wr/\wr.heap[w.heap.size]? =J (Z #[a,b,c,m,.slice e n p] 31)/\wr.heap[w.heap.size+1]? =J (Z #[a,b,c,m,.slice d n j] 31)) (λu _=>n - (intOf u).toNat)
 case atStart=>exact⟨0,OA,rfl,o,g,h⟩
 case round=>
  clear o g h;obtain⟨i,hi,rfl,z,g,h⟩:=hrel;obtain⟨p0,p1,p2,p3,p4⟩:=Xc g;obtain⟨q0,q1,q2,q3,q4⟩:=Xc h;by_cases o:i=n
  .subst o;go_wp2;go_ret;exact⟨rfl,z⟩
  .have A5:(i:Int)<(n:Int):=OA
   obtain⟨x,E⟩:∃x,L[i]? =J x:=⟨_,YH (by have:=Y.out;omega)⟩;obtain⟨_,_,rfl,_,u⟩:=(O.out.ext z) i x E;obtain⟨_,_,rfl,_,o⟩:=(A.out.ext z) i x E;have x0:=u.1;have x1:=u.2;have x2:=u.3;have x3:=u.4;have x4:=u.5;have y0:=o.1;have y1:=o.2;have y2:=o.3;have y3:=o.4;have y4:=o.5;clear E u o;have gp:=ZQ p4;have gq:=ZQ q4;have H:=ZQ x0;have V:=ZQ x1;have E:=ZQ x2;have F:=ZQ x3;have a0:=ZQ x4;have T:=ZQ y0;have u:=ZQ y1;have K:=ZQ y2;have X:=ZQ y3;have M:=ZQ y4;go_wp2_with fail;refine Z9 11 OB ?_;refine ZS [0,1,2,3,4,5,6,7,8,9,10] OB OB ?_;simp only[ZR,YB,YA,YK,YJ]
   repeat (go_big_quiet_step (fail))
   refine XI ?_;refine Yt OB (λW o=> ?_);have W:=z.trans o;replace g:=o.get g;replace h:=o.get h;clear p0 p1 p2 p3 p4 q0 q1 q2 q3 q4 gp gq H V E F a0 T u K X M x0 x1 x2 x3 x4 y0 y1 y2 y3 y4 o z;go_wp2;exact⟨⟨i+1,OA,by push_cast;rfl,W,g,h⟩,by simp[intOf];omega⟩
end Go.Proofs.Tryp
namespace Go.Nk
open Go.Conc
open Go.ConcN (sumTo)
variable [Ban]
def kx(h:Past (λ_=>False) B t):Past (Zu Sb) B t:=⟨h.clean,λi a d e=> .inl ((h.known i a d e).resolve_right λx=>x.1),h.over,h.hears,h.seen⟩
def qU(h:∀op∈t,op.g=0)(j:Nat)(e:1<=j):Deaf t j=0:=Go.ConcN.Deaf_absent (λi op d=>by rw[h op (Array.mem_of_getElem? d)];omega)
def eI{o:U->U->Prop}{D:U->U->Array Event->Prop}{e d:NR->U->Prop}(h:∀g w,e g w->d g w):∀(n:Nat)(g:NR)(w:U),Goes P main o D e n g w->Goes P main o D d n g w:=by
 intro n
 induction n with
 |zero=>exact λg w p i j=>h _ _ (p i j)
 |succ n u=>
  intro g w p;rcases p with p|⟨A,z⟩
  .exact .inl λi j=>h _ _ (p i j)
  .refine .inr ⟨A,λi j=> ?_⟩;have:=z i j;generalize stepG P main g i=s at this;cases s<;>first|exact⟨this.1,u _ _ this.2⟩|exact this
section
variable {fs:Array Func}{Gs:Nat->Bool}
def H5(hs:Solo P fs Gs)(I6:Y5 P fs)(hR:∀t v V,R v V->R v (retape t V)){fn:Func}(hf:P.funcs[f]? =J fn)(a3:fs[f]? =J fn)(hr:fn.results= #[.tmp tr])(Hq:Ent (Z6 P fs) fs f)(Yg:Tm P fs Gs f)
 {n:Array NM}{A:NN}(hP:J8 P fs Gs (KY (Z6 P fs) f tr R) [A] w){K:U}(L:Start Gs P.globals.size K w)
 (Pk:AR id (Live K) n n)
 (h:∀t,NW (Z6 P fs) f n (retape t K) λe V'=>∃v,e= NK v/\R v V')
 {t:Trace}(hp:Past (λ_=>False) w.heap.size t)(Cu:∀op∈t,op.g=0){E:NM->U->Prop}{k:Nat}
 (Cs:∀v0 v V ρ t0 w',R v0 (retape t0 V)->VRel ρ (Live V) v0 v->(∀b,b<w.heap.size->w'.heap[b]? =w.heap[b]?)->w.heap.size<=w'.heap.size->w'.tape=w.tape->w'.os=w.os->w'.output=w.output->
   Goes P NC AtRel (λ_ _ M=>M= #[]) (λg z=>g.status= .running/\∃x,stepG P NC g z= .ended (.done x) z #[]/\E x z) k (G (A.finish v) []) w'):
 ∃N u o w' t',runNT P (N+1) (crowd #[G (Frame.enter P f n .normal) [A]] w NB) t=(.ended o w',t')/\runN P N (crowd #[G (Frame.enter P f n .normal) [A]] w NB)= .next u/\step P u= .ended o w'/\
  Go.Conc.Good P E u o w' t':=by
 have Nc:(Z6 P fs).funcs[f]? =J fn:=a3;have hE:IsEnd (KY (Z6 P fs) f tr R):=Gl hR;have Wu:∀g,Gs g=NC->Live K g:=λg F=>(L.live g).1 F
 have I5:LoopsOk (ZE P fs Gs) K:=λb l H=>absurd H (L.loops b l)
 have Bc:Self P fs Gs (Frame.enter (Z6 P fs) f n .normal) [trap] K:=
  ⟨L.self,λb l H=>absurd H (L.loops b l),FrR.enter (P:=Z6 P fs) (hs.all f Hq) Pk,.nil,λ_=>rfl⟩
 have hH:=dK hs hE Wu Bc (bH Nc hr h);have Uc:=FrR.enter (fs:=fs) Yg Pk
 have a0:RelM P fs Gs [A] w id (λb=>b<w.heap.size/\Gs b=ND) (Frame.enter (Z6 P fs) f n .normal) [trap] K (Frame.enter P f n .normal) [A] w:=
  ⟨Bc,.own Uc,.nil,λ_=>Uc,λ_=>rfl,L.emb,I5,λg F=>⟨Wu g F,rfl⟩,λb H h=>(by have O:Gs b=ND:=h.2;rw[(L.live b).2 H]at O;exact(Bool.noConfusion O)),λb h=>h.1,λ_ _=>rfl,λb H F=>(by rw[(L.live b).2 H]at F;exact Bool.noConfusion F),XA _,rfl,rfl,rfl⟩
 have a1:MacM P (λb=>b<w.heap.size/\Gs b=ND) (Frame.enter P f n .normal) [A] #[G (Frame.enter P f n .normal) [A]] w t (λ_=>0):=
  ⟨rfl,⟨λi g hi F=>by
    have:i<1:=(by simpa using(YF.1 F).1);omega,λj hj=>qU Cu j (by simpa using hj)⟩,kx hp,λop A4=>by rw[Cu op A4];simp⟩
 obtain⟨N,_,t',h1,O⟩:=oL hs I6 hE hP hH .refl (j:=NB) a0 a1;obtain⟨ρ,Sb,_,V,p,gs,z,sl,q,rfl,W,Y,hM,⟨t0,T⟩,hm,hd⟩:=O;obtain⟨_,a5,_,_,hv⟩:=T;have X:p.mode= .returning:=Y.mode.1.trans hm;have a4:p.defers=[]:=by
  have:=Y.defers;rw[hd]at this;generalize p.defers=x at this;cases this;rfl
 have Qk:p.fn=f:=Y.fn.trans a5;have hG:Goes P NC AtRel (λ_ _ M=>M= #[]) (AtEnd P (Zu Sb) z.heap.size E) (k+1) (G p [A]) z:=by
  refine .step rfl λ_ Da=> ?_
  have a6:=Da;obtain⟨d,rfl⟩:=Da;have Aj:(results fn p.tmps).runT P (z.at d) #[]=(.ok (p.tmps.getD tr NQ) (z.at d),#[]):=by
   simp[results,hr]
  have e1:stepG P NC (G p [A]) (z.at d)= .go (G (A.finish (p.tmps.getD tr NQ)) []) (z.at d) #[]:=by
   have:stepG P NC (G p [A]) (z.at d)=unwind P NC p [A] NB (z.at d):=by simp only[G,stepG,X]
   rw[this];simp only[unwind,a4,X,Qk,hf,Aj,doReturn,Y.kind.2];simp[GStep.after,seen,G]
  rw[e1];refine⟨rfl,?_⟩;have:=Cs _ (p.tmps.getD tr NQ) V ρ t0 (z.at d) hv (Y.tmps.at tr) W.old W.grown W.tape W.os W.output;exact eI (λg x ⟨h1,v,O,h3⟩=>⟨h1,v,#[],O,λe T=>by simp at T,h3⟩) _ _ _ this
 obtain⟨N',u,o,w',a2,h3,h4,h5,h6⟩:=beside_ends (Shun:=Zu Sb) (B:=z.heap.size) (D:=λ_ _ M=>M= #[]) (λ_ _ M h e T=>by rw[h]at T;simp at T) hM.main hM.leave hM.past hG;have h7:runN P N (crowd #[G (Frame.enter P f n .normal) [A]] w NB)= .next (crowd gs z sl):=by rw[<-runNT_fst P N _ t,h1]
 refine⟨N+N',u,o,w',a2,?_,?_,h5,h6⟩
 .rw[TA];exact runNT_cat h1 h3
 .rw[runN_add,h7];exact h4
end
end Go.Nk
namespace Go.Ns
open Go.Conc
open Go.Nk (Ban Z6 trap)
def Y0(P:Program)(c:Code)(G:List Item->NV->U->Prop)(a:NV)(w:U):Prop:=
 ∀(b:NN)(k:List Item)(g:List NN),∃d e h w',G d e w'/\Steps P (lone (b.at a (.code c::k)) g w) (lone (b.at e (d++h)) g w')
section
variable {G:List Item->NV->U->Prop}{a:NV}{id:Nat}
def rr(h:Y0 P x G a w):Y0 P (.seq x y) G a w:=λb k e=>
 let ⟨z,d,i,w',g,s⟩:=h b (.code y::k) e
 ⟨z,d,i,w',g,.head step_seq s⟩
def Ve(h:∀K:NV->U->Prop,(∀a w,Y0 P y G a w->K a w)->x.wp P (Exit.then K (λ_ _ _=>False)) a w):Y0 P (.seq x y) G a w:=by
 intro b k j;obtain⟨e,_,_,i,d⟩:=h (λa w=>Y0 P y G a w) (λ_ _ h=>h) b (.code y::k) j;cases e<;>first|exact i.elim|skip
 obtain⟨z,n,o,w',g,s⟩:=i b k j;exact⟨z,n,o,w',g,.head step_seq (Steps.trans d s)⟩
def GL{o:Operand}{t:Bool}(i:a.eval o= .bool t)(h:Y0 P (if t then x else y) G a w):Y0 P (.cond o x y) G a w:=λb k e=>
 let ⟨z,d,j,w',g,s⟩:=h b k e
 ⟨z,d,j,w',g,.head (step_cond i) s⟩
def BL{K:NV->U->Prop}:∀(l:List Oper)(n:Nat),(∀j,j<l.length->ops[n+j]? =l[j]?)->∀(a:NV)(w:U),wpList P ops (Exit.then K λ_ _ _=>False) l a w->∀(b:NN)(k:List Item)(cs:List NN)(g:List Nat),
 ∃u w',K u w'/\Steps P (lone (b.at a (.inRegion ops (List.range' n l.length++g)::k)) cs w) (lone (b.at u (.inRegion ops g::k)) cs w')
 |[],n,_,a,w,h,b,k,cs,g=>⟨a,w,h,.refl _ _⟩
 |o::l,n,hl,a,w,h,b,k,cs,g=>by
  have F:ops[n]? =J o:=by simpa using hl 0 OD
  have A:=BL (K:=K) l (n+1) (λj _=>by have:=hl (j+1) (by simp;omega);simpa[TA,Nat.add_comm 1 j]using this);have Y:¬LetsOut (Exit.then K λ_ _ _=>False):=fun⟨_,_,h⟩=>h
  rw[YP,List.range'_succ,YK];unfold wpList at h;by_cases L:Region.wanted o (yielded ops a.tmps)=NC
  .rw[YZ L]at h;replace h:=h.resolve_right λh=>Y h.2
   have E:=stepG_op (P:=P) (b:=b) (k:=k) (cs:=cs) (w:=w) (rest:=List.range' (n+1) l.length++g) F L;have M:∀v,(b.at a (.inRegion ops (n::(List.range' (n+1) l.length++g))::k)).finish v=b.at (a.put o.dst v) (.inRegion ops (List.range' (n+1) l.length++g)::k):=by
    intro v;rw[QP,F];rfl
   simp only[Oper.wp,Oper.upon]at h;split at h
   .rename_i v w' hr;obtain⟨u,p,z,s⟩:=A _ _ h b k cs g;refine⟨u,p,z,.head (QT ?_) s⟩;rw[E,<-M];simp[stepG.apply,hr]
   .rename_i w' hr;obtain⟨u,p,z,s⟩:=A _ _ h b k cs g;refine⟨u,p,z,.head (QT ?_) s⟩;rw[E,<-M];simp[stepG.apply,hr]
   .rename_i d w' hr;obtain⟨u,p,z,s⟩:=A _ _ h b k cs g;refine⟨u,p,z,.head (QT ?_) s⟩
    have:({b.at a (.inRegion ops (n::(List.range' (n+1) l.length++g))::k)with defers:=d::a.defers}:NN).finish NQ=
     b.at ({a with defers:=d::a.defers}.put o.dst NQ) (.inRegion ops (List.range' (n+1) l.length++g)::k):=by
     have:=QP b {a with defers:=d::a.defers} ops n (List.range' (n+1) l.length++g) k NQ;rw[F]at this;exact this
    rw[E];simp only[stepG.apply,Sem.runT_eq,hr,GStep.bare_after];exact RJ (λW=>GStep.go {frame:=W,callers:=cs,status:= .running,dying:=NB} w') this
   .rename_i f args w' hr;obtain⟨e,p,W,H,O,_,Dh⟩:=h (b.at a (.inRegion ops (n::(List.range' (n+1) l.length++g))::k)::cs)
    have T:step P (lone (b.at a (.inRegion ops (n::(List.range' (n+1) l.length++g))::k)) cs w)=
     .next (lone (Frame.enter P f args .normal) (b.at a (.inRegion ops (n::(List.range' (n+1) l.length++g))::k)::cs) w'):=
     QT (by rw[E];simp[stepG.apply,hr,Frame.at])
    cases e with
    |returned v=>
     obtain⟨u,V,z,s⟩:=A _ _ H b k cs g;refine⟨u,V,z,.head T (O.trans (.head ?_ s))⟩;rw[<-M];exact step_leave_returned Dh
    |panicked _=>exact H.elim
    |outgrown=>exact(Y H).elim
   .rename_i row args w' hr;obtain⟨v,p,H,O⟩:=h (b.at a (.inRegion ops (n::(List.range' (n+1) l.length++g))::k)) cs
    have T:step P (lone (b.at a (.inRegion ops (n::(List.range' (n+1) l.length++g))::k)) cs w)=
     .next (lone (Frame.ofRow P row args .normal) (b.at a (.inRegion ops (n::(List.range' (n+1) l.length++g))::k)::cs) w'):=
     QT (by rw[E];simp[stepG.apply,hr,Frame.at])
    obtain⟨u,V,z,s⟩:=A _ _ H b k cs g;refine⟨u,V,z,.head T (.trans ?_ s)⟩;rw[<-M];exact O
   .exact h.elim
   .exact h.elim
  .rw[XB L]at h;obtain⟨u,w',z,s⟩:=A _ _ h b k cs g
   have X:=step_op_skip (P:=P) (b:=b) (a:=a) (k:=k) (cs:=cs) (w:=w) (ops:=ops) (i:=n) (rest:=List.range' (n+1) l.length++g)
    (by simp[F];simpa using L)
   simp only[F,SK]at X;exact⟨u,w',z,.head X s⟩
def dP(n:Nat)(p:n<=ops.size)(h:∀K:NV->U->Prop,(∀a w,G [.inRegion ops (List.range' n (ops.size - n)),.code y] a w->K a w)->wpList P ops (Exit.then K λ_ _ _=>False) (ops.toList.take n) a w):Y0 P (.seq (.region id ops ND) y) G a w:=by
 intro b k o;have e:(ops.toList.take n).length=n:=by simp;omega
 obtain⟨i,w',g,s⟩:=BL (ops.toList.take n) 0 (λj d=>by rw[e]at d;simp[List.getElem?_take,d]) a w (h _ λ_ _ h=>h) b (.code y::k) o (List.range' n (ops.size - n));rw[e]at s;have e:List.range ops.size=List.range' 0 n++List.range' n (ops.size - n):=by
  rw[List.range_eq_range'];have:=(List.range'_append (s:=0) (m:=n) (n:=ops.size - n) (step:=1)).symm;simpa[Nat.add_sub_cancel' p]using this
 rw[<-e]at s;exact⟨_,i,k,w',g,.head step_seq (.head step_region s)⟩
end
inductive Tail(ops:Array Oper):List Nat->NV->NV->Nat->Prop
 |nil {a}:Tail ops [] a a 0
 |cons {i l o v a a' n} (ho:ops[i]? =J o) (hw:Region.wanted o (yielded ops a.tmps)=NC) (hx:NU a.eval o=pure (.value v)) (h:Tail ops l (a.put o.dst v) a' n):Tail ops (i::l) a a' (n+1)
def KT(g:NS)(r:Tmp)(m:Nat)(E:U->Prop)(d:List Item)(a:NV)(w:U):Prop:=
 ∃ops i l s h e j n,d=[.inRegion ops (i::l),.code .ret]/\ops[i]? =J ⟨J s,.call {callee:= .value (.func g),args:= #[],argTypes:= #[]},h,e,j,n⟩/\
  Region.wanted ⟨J s,.call {callee:= .value (.func g),args:= #[],argTypes:= #[]},h,e,j,n⟩ (yielded ops a.tmps)=NC/\
  (∀v,∃e n,n<=m/\Tail ops l (a.put (J s) v) e n/\e.tmps.getD r NQ=v/\e.defers=[])/\E w
def Dw(w:U)(d e:Nat):(w.at d).at e=w.at e:=rfl
def mI{R:U->U->Prop}{D:U->U->Array Event->Prop}{d:NR->U->Prop}{n:Nat}(h:n<=m){g:NR}{w:U}(i:Goes P main R D d n g w):Goes P main R D d m g w:=by
 induction h with|refl=>exact i|step _ e=>exact e.more
def gX(hi:P.inits.idxOf? f=NB)(hf:P.funcs[f]? =J fn)(B6:fn.results= #[.tmp r]){b:NN}(E:b.fn=f)(T:b.kind= .normal){k:List Item}
 {v:NM}{e:NM->U->Prop}{ops:Array Oper}{l:List Nat}{a z:NV}{n:Nat}(V:Tail ops l a z n)(O:z.tmps.getD r NQ=v)(K:z.defers=[]):∀{w:U},(∀d,e v (w.at d))->
 Goes P NC AtRel (λ_ _ es=>es= #[]) (λg j=>g.status= .running/\∃x,stepG P NC g j= .ended (.done x) j #[]/\e x j) (n+2)
  (G (b.at a (.inRegion ops l:: .code .ret::k)) []) w:=by
 induction V with
 | @cons i l o u a z n M hw hx h ih=>
   intro w H;rw[Nat.add_right_comm];refine .step rfl λj Fm=> ?_
   obtain⟨p,rfl⟩:=Fm;have s1:stepG P NC (G (b.at a (.inRegion ops (i::l):: .code .ret::k)) []) (w.at p)= .go (G (b.at (a.put o.dst u) (.inRegion ops l:: .code .ret::k)) []) (w.at p) #[]:=by
    have h1:=stepG_op (P:=P) (b:=b) (a:=a) (k:= .code .ret::k) (cs:=[]) (w:=w.at p) (rest:=l) M hw;have L:=QP b a ops i l (.code .ret::k) u;unfold G;rw[h1,hx];have Y:(pure (Next.value u):Sem Next).runT P (w.at p) #[]=(.ok (.value u) (w.at p),#[]):=rfl;have W:((b.at a (.inRegion ops (i::l):: .code .ret::k)).kind==CallKind.early)=ND:=(by show(b.kind==_)=ND;rw[T];rfl);rw[M]at L;simp only[stepG.apply,XY,Y,W,YR,VF,L];simp[GStep.after,seen,G]
   rw[s1];exact⟨rfl,ih O K λd=>by rw[Dw];exact H d⟩
 |nil=>
  intro w H;refine .step rfl λj Fm=> ?_
  obtain⟨d2,rfl⟩:=Fm;have X:∀(a:NV)(w:U),stepG P NC (G (b.at a (.inRegion ops []:: .code .ret::k)) []) w= .go (G (b.at a (.code .ret::k)) []) w #[]:=λa w=>by simp[G,stepG,stepG.exec,Frame.at]
  rw[X];refine⟨rfl,.step rfl λj Fm=> ?_⟩;obtain⟨d3,rfl⟩:=Fm;rw[Dw];have s3:∀(a:NV)(w:U),stepG P NC (G (b.at a (.code .ret::k)) []) w= .go (G {b.at a (.code .ret::k)with mode:= .returning} []) w #[]:=λa w=>by simp[G,stepG,stepG.exec,Frame.at]
  rw[s3];refine⟨rfl,.stop λj Fm=> ?_⟩;obtain⟨A,rfl⟩:=Fm;rw[Dw];refine⟨rfl,v,?_,H A⟩;rename_i a;have F:(results fn a.tmps).runT P (w.at A) #[]=(.ok v (w.at A),#[]):=by
   rw[<-O];simp[results,B6]
  show unwind P NC {b.at a (.code .ret::k)with mode:= .returning} [] NB (w.at A)=_;simp only[unwind,Frame.at,K,E,hf,F,doReturn,T];simp[GStep.after,seen,hi]
def mg(g:P.funcs[f]? =J fn)(i:(fn.name== "runtime.NumGoroutine")=ND)(h:fn.body.isNone=ND)(d:Array NM)(w:U)(e:Array Event):(callFunc f d).runT P w e=(.ok (.enter f d) w,e):=by
 unfold callFunc;simp only[bind,Sem.bind,program,Sem.runT,g,i,h,YR,VF];rfl
def ka[Ban][Pf][FsW]{f g:NS}{fn:Func}{c:Code}{r:Tmp}{m:Nat}{j:Array NM}{w:U}{E:U->Prop}{Post:NM->U->Prop}
 (Ys:WF f)(hi:Pf.P.inits.idxOf? f=NB)(Jp:PW w)(hf:Pf.P.funcs[f]? =J fn)(hb:fn.body=J c)(B6:fn.results= #[.tmp r])
 (R9:Y0 (Z6 Pf.P Pf.fs) c (KT g r m E) {tmps:=j++Array.replicate (fn.ntmps - j.size) NQ,defers:=[]} (clean Wob w))
 {gn:Func}(Pg:Pf.P.funcs[g]? =J gn)(Y:(gn.name== "runtime.NumGoroutine")=ND)(Rw:gn.body.isNone=ND)
 (D0:∀(z:NN)(A:U)(t:Trace),E (clean Wob A)->Jn Wob w A->w.heap.size<=A.heap.size->Past (λ_=>False) A.heap.size t->(∀op∈t,op.g=0)->
   (∀v w',(∀d,Post v (w'.at d))->Goes Pf.P NC AtRel (λ_ _ X=>X= #[]) (λg A=>g.status= .running/\∃x,stepG Pf.P NC g A= .ended (.done x) A #[]/\Post x A) (m+2) (G (z.finish v) []) w')->
   ∃N p o w' H,runNT Pf.P (N+1) (crowd #[G (Frame.enter Pf.P g #[] .normal) [z]] A NB) t=(.ended o w',H)/\runN Pf.P N (crowd #[G (Frame.enter Pf.P g #[] .normal) [z]] A NB)= .next p/\step Pf.P p= .ended o w'/\
    Go.Conc.Good Pf.P Post p o w' H):
 ∃N p o w' H,runNT Pf.P (N+1) (Go.Conc.solo (G (Frame.enter Pf.P f j .normal) []) w) #[]=(.ended o w',H)/\runN Pf.P N (Go.Conc.solo (G (Frame.enter Pf.P f j .normal) []) w)= .next p/\step Pf.P p= .ended o w'/\
  Go.Conc.Good Pf.P Post p o w' H:=by
 obtain⟨b,W⟩:∃b:NN,b={(default:NN)with fn:=f,kind:= .normal}:=⟨_,rfl⟩;have Fa:Frame.enter Pf.P f j .normal=b.at {tmps:=j++Array.replicate (fn.ntmps - j.size) NQ,defers:=[]} [.code c]:=by
  subst W;simp[Frame.enter,Frame.at,hf,hb]
 have V:b.fn=f:=by rw[W]
 have Ev:b.kind= .normal:=by rw[W]
 obtain⟨x,K,O,u,⟨ops,i,l,s,T,p1,f1,gd,rfl,ho,hw,hT,hE⟩,Al⟩:=R9 b [] [trap];have E1:Steps (Z6 Pf.P Pf.fs) (lone (Frame.enter Pf.P f j .normal) ([]++[trap]) (clean Wob w)) (lone (b.at K (.inRegion ops (i::l):: .code .ret::O)) ([]++[trap]) u):=by
  rw[Fa];exact Al
 obtain⟨n,hn⟩:=E1;obtain⟨F,L,rfl,hj,q1,q2,q3,q4⟩:=carry n hn (show SO _ _ from⟨FO.enter Ys _,rfl⟩) Jp (t:= #[]) (past_nil.mono (XL _)) (λop h=>by simp at h);obtain⟨z,M⟩:∃z,z=b.at K (.inRegion ops (i::l):: .code .ret::O):=⟨_,rfl⟩;have An:stepG Pf.P NC (G z []) F= .go (G (Frame.enter Pf.P g #[] .normal) [z]) F #[]:=by
  rw[M];have h1:=stepG_op (P:=Pf.P) (b:=b) (a:=K) (k:= .code .ret::O) (cs:=[]) (w:=F) (rest:=l) ho hw;unfold G;rw[h1];have h3:(NU K.eval ⟨J s,.call {callee:= .value (.func g),args:= #[],argTypes:= #[]},T,p1,f1,gd⟩).runT Pf.P F #[]=(.ok (.enter g #[]) F,#[]):=by
   have h6:NU K.eval ⟨J s,.call {callee:= .value (.func g),args:= #[],argTypes:= #[]},T,p1,f1,gd⟩=callFunc g #[]:=by
    show(resolve K.eval {callee:= .value (.func g),args:= #[],argTypes:= #[]} T).bind (λd=>invoke d.target d.args)=_;have h7:resolve K.eval {callee:= .value (.func g),args:= #[],argTypes:= #[]} T= .pure {target:= .fn (.func g) #[],args:= #[]}:=by
     unfold resolve;simp only[Array.map_empty];rfl
    rw[h7];rfl
   rw[h6];exact mg Pg Y Rw _ _ _
  have hk:((b.at K (.inRegion ops (i::l):: .code .ret::O)).kind==CallKind.early)=ND:=by show(b.kind==_)=ND;rw[Ev];rfl
  simp only[stepG.apply,XY,h3,hk,YR,VF];simp[GStep.after,seen,Frame.at]
 have A2:∀v w',(∀d,Post v (w'.at d))->Goes Pf.P NC AtRel (λ_ _ X=>X= #[]) (λg A=>g.status= .running/\∃x,stepG Pf.P NC g A= .ended (.done x) A #[]/\Post x A) (m+2) (G (z.finish v) []) w':=λv w' hp=>by
  obtain⟨_,_,_,ht,hr,hd⟩:=hT v;have:=gX (P:=Pf.P) hi hf B6 V Ev (k:=O) ht hr hd hp;rw[M,QP,ho];exact mI OA this
 rw[<-M]at q1;obtain⟨N,p,o,w',H,r1,r2,r3,r4⟩:=D0 z F L hE hj q4 q2 q3 A2;have e:stepT Pf.P (crowd #[G z []] F NB)=(.next (crowd #[G (Frame.enter Pf.P g #[] .normal) [z]] F NB),MemOp.ofEvents 0 z.fn z.place #[]):=by
  rw[<-QU,stepT_solo rfl,QU];have:=RY (P:=Pf.P) (gs:= #[G z []]) (sl:=NB) (i:=0) (g:=G z []) rfl (show stepG Pf.P (0==0) (G z []) F=_ from An);simp only[TD,VG,VX]at this;exact this
 have e0:MemOp.ofEvents 0 z.fn z.place #[]= #[]:=rfl;rw[e0]at e;have e1:runNT Pf.P (N+1+1) (crowd #[G z []] F NB) L=(.ended o w',H):=by
  simp only[runNT,e,Array.append_empty];exact r1
 refine⟨n+(N+1),p,o,w',H,?_,?_,r3,r4⟩
 .rw[QU,TA];exact Go.Nk.runNT_cat q1 e1
 .have q5:runN Pf.P n (crowd #[G (Frame.enter Pf.P f j .normal) []] w NB)= .next (crowd #[G z []] F NB):=by rw[<-runNT_fst Pf.P n _ #[],q1]
  rw[QU,runN_add,q5];show runN Pf.P (N+1) _=_;rw[<-runNT_fst Pf.P (N+1) _ L];simp only[runNT,e,Array.append_empty];rw[runNT_fst];exact r2
end Go.Ns
namespace Go.Proofs.Tryq
open Go.Nk Go.RowKit
@[go_sem] def eq46 (a b c d e i g h:Int) (w:U):(Op.equalIn 10000 81 (.agg #[a,b,c,d]) (.agg #[e,i,g,h])).run prog w= .ok (a==e&&b==i&&c==g&&d==h) w:=by
  have u3:prog.underlying 3=J (.int I):=(underlying_eq 3).trans Tryz.underlying3;have j:prog.underlying 79=J (.int I):=(underlying_eq 79).trans Tryz.underlying79;have j:prog.underlying 54=J (.int I):=(underlying_eq 54).trans Tryz.underlying54;have j:=Tryz.isAgg3;have j:=Tryz.sizeOf3;have n:prog.underlying 81=J (.struct (prog.fieldsOf 81)):=OB
  have j:prog.stoodInHeld 81=ND:=OB
  rw[show(10000:Nat)=9999+1 from rfl,RA w 9999 81 _ _ n j];simp only[Program.fieldsOf,underlying_eq,Tryz.underlying81];go_simp;by_cases o:a=e<;>by_cases j:b=i<;>by_cases p:c=g<;>by_cases n:d=h<;>simp[o,j,p,n]
@[go_sem] def guard46 (op:BinOp) (p q:Operand) (e d:Array NM) (w:U):(eqGuard op 81 p q (.agg e) (.agg d)).run prog w= .ok () w:=RO w op 81 p q e d OB
def apB(x y:Ap):Bool:=x.p==y.p&&x.q==y.q&&(x.k:Int)==(y.k:Int)&&x.s==y.s
def apsB:List Ap->List Ap->Bool
 |[],[]=>NC
 |x::l,y::k=>apB x y&&apsB l k
 |_,_=>ND
def B3{l k:List Ap}{i:Nat}{x y:Ap}(e:l[i]? =J x)(d:k[i]? =J y):apsB (l.drop i) (k.drop i)=(apB x y&&apsB (l.drop (i+1)) (k.drop (i+1))):=by rw[WP e,WP d];rfl
def apsB_len:∀{l k:List Ap},l.length≠k.length->apsB l k=ND
 |[],[],h=>absurd rfl h
 |[],_::_,_=>rfl
 |_::_,[],_=>rfl
 |x::l,y::k,h=>by rw[apsB,apsB_len (l:=l) (k:=k) (by simpa using h),Bool.and_false]
def RawAp(w:U)(e:Option NP)(A:List Ap):Prop:=∀(i:Nat)(x:Ap),A[i]? =J x->∃b d,e=J ⟨b,d,NB⟩/\b<w.heap.size/\(w.cell? ⟨b,d+i*4,NB⟩=J (.int I x.p)/\w.cell? ⟨b,d+i*4+1,NB⟩=J (.int I x.q)/\w.cell? ⟨b,d+i*4+2,NB⟩=J (.int I x.k)/\w.cell? ⟨b,d+i*4+3,NB⟩=J (.int I x.s))
def RawAp.ext{d:Option NP}{A:List Ap}(h:RawAp w d A)(e:Ext w w'):RawAp w' d A:=by
 intro i x hi;obtain⟨b,g,p,n,z,o,u,j⟩:=h i x hi;exact⟨b,g,p,e.lt n,e.cellS z,e.cellS o,e.cellS u,e.cellS j⟩
def rx(a1:Option NP)(g c1:Nat)(l:List Ap)(a2:Option NP)(h c2:Nat)(k:List Ap)(w:U)(h1:l.length=g)(h2:k.length=h)(e:g<=1000000/\h<=1000000)(hl:RawAp w a1 l)(hk:RawAp w a2 k):
 NW prog 33 #[.slice a1 g c1,.slice a2 h c2] w (OI (.bool (apsB l k)) w):=by
 by_cases Y:g=h
 .have H:Hid (apsB l k=apsB (l.drop 0) (k.drop 0)):=rfl;subst Y;obtain⟨n,Y⟩:∃n,n=g:=⟨_,rfl⟩;subst Y;go_enter fk Tryz.func33,Tryz.ntmps33;go_wp2;go_loopw [5] (λv wr=>∃i:Nat,i<=n/\v= .int I i/\Ext w wr/\Hid (apsB l k=apsB (l.drop i) (k.drop i))) (λv _=>n - (intOf v).toNat)
  case atStart=>exact⟨0,XL _,rfl,Ext.rfl' w,H⟩
  case round=>
   obtain⟨i,hi,rfl,o,V⟩:=hrel;clear H;by_cases Ao:i=n
   .subst Ao;have M:apsB l k=NC:=(by rw[V.out,MK h1,MK h2];rfl);go_wp2;go_ret;exact⟨ZP (a:=NC) M.symm,o⟩
   .have A5:i<n:=OA;obtain⟨x,X⟩:∃x,l[i]? =J x:=⟨_,YH OA⟩;obtain⟨y,T⟩:∃y,k[i]? =J y:=⟨_,YH OA⟩;obtain⟨_,_,rfl,_,j⟩:=(hl.ext o) i x X;obtain⟨_,_,rfl,_,d⟩:=(hk.ext o) i y T;have a4:(!(x.p==y.p&&x.q==y.q&&(x.k:Int)==(y.k:Int)&&x.s==y.s))= !apB x y:=rfl;go_wp2_with fail;have E:=ZQ j.1;have a3:=ZQ j.2.1;have O:=ZQ j.2.2.1;have z:=ZQ j.2.2.2;have a0:=ZQ d.1;have L:=ZQ d.2.1;have A:=ZQ d.2.2.1;have K:=ZQ d.2.2.2;refine Z9 9 OB ?_;refine ZS [0,1,2,3,4,5,6,7,8] OB OB ?_;simp only[ZR,YB,YA,YK,YJ]
    repeat (go_big_quiet_step (fail))
    refine XI ?_;refine Yt OB (λW hW=> ?_);have Bj:=hW;clear E a3 O z a0 L A K;have Cl:=o.trans Bj;by_cases u:apB x y=NC
    .have e:(!apB x y)=ND:=(by simp[u]);have F:Hid (apsB l k=apsB (l.drop (i+1)) (k.drop (i+1))):=(by show _=_;rw[V.out,B3 X T,u,TS]);rw[e];clear e;go_wp2;go_roundw
     case rel=>exact⟨i+1,OA,by push_cast;rfl,Cl,F⟩
     case measure=>simp[intOf];omega
    .have e:(!apB x y)=NC:=(by simpa using u);have F:apsB l k=ND:=(by rw[V.out,B3 X T,(by simpa using u:apB x y=ND),QR]);rw[e];clear e;go_wp2;go_ret;exact⟨ZP (a:=ND) F.symm,Cl⟩
 .have M:apsB l k=ND:=apsB_len OA;have a5:¬(g:Int)=(h:Int):=OA
  go_enter fk Tryz.func33,Tryz.ntmps33;go_wp2;go_ret;exact⟨ZP (a:=ND) M.symm,Ext.rfl' w⟩
def BU(w:U)(a:NP)(v:NM):(w.setCell a v).heap.size=w.heap.size:=(VT w a v).size
def exL:List Sf:=[⟨⟨#[97]⟩,400,405,700,700,250,252⟩,⟨⟨#[98]⟩,404,408,701,701,251,251⟩,⟨⟨#[99]⟩,398,402,700,701,249,250⟩,⟨⟨#[100]⟩,409,412,700,700,255,255⟩,⟨⟨#[101]⟩,402,402,702,702,252,254⟩,⟨⟨#[102]⟩,405,406,701,702,253,253⟩,⟨⟨#[103]⟩,450,450,700,700,250,250⟩]
def exC:Array NM:=(exL.flatMap λx=>(sfC x).toList).toArray
def exC_eq:exC= #[.string ⟨#[97]⟩,.int I 400,.int I 405,.int I 700,.int I 700,.int I 250,.int I 252,.string ⟨#[98]⟩,.int I 404,.int I 408,.int I 701,.int I 701,.int I 251,.int I 251,.string ⟨#[99]⟩,.int I 398,.int I 402,.int I 700,.int I 701,.int I 249,.int I 250,.string ⟨#[100]⟩,.int I 409,.int I 412,.int I 700,.int I 700,.int I 255,.int I 255,.string ⟨#[101]⟩,.int I 402,.int I 402,.int I 702,.int I 702,.int I 252,.int I 254,.string ⟨#[102]⟩,.int I 405,.int I 406,.int I 701,.int I 702,.int I 253,.int I 253,.string ⟨#[103]⟩,.int I 450,.int I 450,.int I 700,.int I 700,.int I 250,.int I 250]:=by rfl
def ll(w:U):NW prog 19 #[] w λe w'=>∃B,e= NK (.agg #[.int I 10,.int I 2,.int I 5,.int I 3,.slice (J ⟨B,0,NB⟩) 7 7])/\w'.heap[B]? =J (Z exC 51)/\Ext w w':=by
 have d:=Ext.rfl' (w.alloc (Z OG 26));have e:(w.alloc (Z OG 26)).heap[w.heap.size]? =J (Z OG 26):=by rw[Z3,YZ rfl]
 go_enter fk Tryz.func19,Tryz.ntmps19
 go_wp2_with (
  go_at_call 30;refine(P7 _ _ _).r λg h=> ?_
  replace d:=d.trans h;clear h
  (try clear F A z E z4 o h p j n u)
  have u:=Z5 (d.get e);have F:=Z8 (d.get e) 0;have A:=Z8 (d.get e) 1;have z:=Z8 (d.get e) 2;have E:=Z8 (d.get e) 3;have z4:=Z8 (d.get e) 4;have o:=Z0 (d.get e) 0;have h:=Z0 (d.get e) 1;have p:=Z0 (d.get e) 2;have j:=Z0 (d.get e) 3;have n:=Z0 (d.get e) 4;simp only[YC,YA,YB]at o h p j n)
 have j:Ext w g:=((Ext.rfl' w).alloc _).trans d;have h:=(Zb (Zb (Zb (Zb (Zb (d.get e) (i:=0) (.int I 10)) (i:=1) (.int I 2)) (i:=2) (.int I 5)) (i:=3) (.int I 3)) (i:=4) (.slice (J g.heap.size) 7 7));have u:=(((((j.setCell w.heap.size (.int I 10) (XA _)).setCell ⟨w.heap.size,1,NB⟩ (.int I 2) (XA _)).setCell ⟨w.heap.size,2,NB⟩ (.int I 5) (XA _)).setCell ⟨w.heap.size,3,NB⟩ (.int I 3) (XA _)).setCell ⟨w.heap.size,4,NB⟩ (.slice (J g.heap.size) 7 7) (XA _));have e:g.heap.size=(((((g.setCell w.heap.size (.int I 10)).setCell ⟨w.heap.size,1,NB⟩ (.int I 2)).setCell ⟨w.heap.size,2,NB⟩ (.int I 5)).setCell ⟨w.heap.size,3,NB⟩ (.int I 3)).setCell ⟨w.heap.size,4,NB⟩ (.slice (J g.heap.size) 7 7)).heap.size:=by simp only[BU]
 have d:g.heap.size≠w.heap.size:=OA
 generalize World.setCell _ _ _=j at h u e⊢;have d:=((Ext.rfl' j).alloc (Z exC 51)).get h;have n:=Z0 d 0;have o:=Z0 d 1;have j:=Z0 d 2;have p:=Z0 d 3;have h:=Z0 d 4;simp at n o j p h;rw[<-exC_eq];refine VE (v:= .agg #[.int I 10,.int I 2,.int I 5,.int I 3,.slice (J g.heap.size) 7 7]) ((Q7 rfl _ _ _).trans ?_) rfl ⟨g.heap.size,rfl,by rw[Z3,YZ e],u.alloc _⟩;simp[go_sem,n,o,j,p,h]
def exS:List Rs:=[⟨10,30,32,0,0⟩,⟨20,55,60,0,0⟩,⟨30,96,99,1,1⟩]
def rsC(x:Rs):List NM:=[.int I x.a,.int I x.m,.int I x.M,.int I x.wi,.int I x.li]
def exD:Array NM:=(exS.flatMap rsC).toArray
def exD_eq:exD= #[.int I 10,.int I 30,.int I 32,.int I 0,.int I 0,.int I 20,.int I 55,.int I 60,.int I 0,.int I 0,.int I 30,.int I 96,.int I 99,.int I 1,.int I 1]:=by rfl
def jL(w:U):NW prog 20 #[] w λe w'=>∃B,e= NK (.agg #[.int I 2,.int I 4,.int I 1,.int I 2,.slice (J ⟨B,0,NB⟩) 3 3])/\w'.heap[B]? =J (Z exD 75)/\Ext w w':=by
 have d:=Ext.rfl' (w.alloc (Z OG 31));have e:(w.alloc (Z OG 31)).heap[w.heap.size]? =J (Z OG 31):=by rw[Z3,YZ rfl]
 go_enter fk Tryz.func20,Tryz.ntmps20
 go_wp2_with (
  go_at_call 30;refine(P7 _ _ _).r λg h=> ?_
  replace d:=d.trans h;clear h
  (try clear F A z E z4 o h p j n u)
  have u:=Z5 (d.get e);have F:=Z8 (d.get e) 0;have A:=Z8 (d.get e) 1;have z:=Z8 (d.get e) 2;have E:=Z8 (d.get e) 3;have z4:=Z8 (d.get e) 4;have o:=Z0 (d.get e) 0;have h:=Z0 (d.get e) 1;have p:=Z0 (d.get e) 2;have j:=Z0 (d.get e) 3;have n:=Z0 (d.get e) 4;simp only[YC,YA,YB]at o h p j n)
 have j:Ext w g:=((Ext.rfl' w).alloc _).trans d;have h:=(Zb (Zb (Zb (Zb (Zb (d.get e) (i:=0) (.int I 2)) (i:=1) (.int I 4)) (i:=2) (.int I 1)) (i:=3) (.int I 2)) (i:=4) (.slice (J g.heap.size) 3 3));have u:=(((((j.setCell w.heap.size (.int I 2) (XA _)).setCell ⟨w.heap.size,1,NB⟩ (.int I 4) (XA _)).setCell ⟨w.heap.size,2,NB⟩ (.int I 1) (XA _)).setCell ⟨w.heap.size,3,NB⟩ (.int I 2) (XA _)).setCell ⟨w.heap.size,4,NB⟩ (.slice (J g.heap.size) 3 3) (XA _));have e:g.heap.size=(((((g.setCell w.heap.size (.int I 2)).setCell ⟨w.heap.size,1,NB⟩ (.int I 4)).setCell ⟨w.heap.size,2,NB⟩ (.int I 1)).setCell ⟨w.heap.size,3,NB⟩ (.int I 2)).setCell ⟨w.heap.size,4,NB⟩ (.slice (J g.heap.size) 3 3)).heap.size:=by simp only[BU]
 have d:g.heap.size≠w.heap.size:=OA
 generalize World.setCell _ _ _=j at h u e⊢;have d:=((Ext.rfl' j).alloc (Z exD 75)).get h;have n:=Z0 d 0;have o:=Z0 d 1;have j:=Z0 d 2;have p:=Z0 d 3;have h:=Z0 d 4;simp at n o j p h;rw[<-exD_eq];refine VE (v:= .agg #[.int I 2,.int I 4,.int I 1,.int I 2,.slice (J g.heap.size) 3 3]) ((Q7 rfl _ _ _).trans ?_) rfl ⟨g.heap.size,rfl,by rw[Z3,YZ e],u.alloc _⟩;simp[go_sem,n,o,j,p,h]
def stkV(B:Nat):NM:= .agg #[.int I 10,.int I 2,.int I 5,.int I 3,.slice (J B) 7 7]
def OS(D n c:Nat):NM:= .agg #[.int I 2,.int I 4,.int I 1,.int I 2,.slice (J D) n c]
def exS4:List Rs:=exS++[⟨20,70,70,0,0⟩]
def v_open0:Zo 10 2 5 3 exL []=0:=OB
def v_m1:OY 10 2 5 3 exL [0,1,2]=1/\Zo 10 2 5 3 exL [0,1,2]=0:=⟨OB,OB⟩
def v_m2:OY 10 2 5 3 exL [0,3]=0/\Zo 10 2 5 3 exL [0,3]=0:=⟨OB,OB⟩
def v_m3:OY 10 2 5 3 exL [0,6]=2/\Zo 10 2 5 3 exL [0,6]=0:=⟨OB,OB⟩
def exA:List Ap:=[⟨0,3,0,0⟩,⟨2,3,0,0⟩,⟨2,3,2,0⟩]
def v_ap:apsB (Oq 10 2 5 3 exL [0,2,3]) exA=NC/\Zo 10 2 5 3 exL [0,2,3]=0/\(Oq 10 2 5 3 exL [0,2,3]).length=3:=⟨OB,OB,OB⟩
def v_fill:Pz 10 2 5 3 exL=[[0,1,2],[3,4,5]]:=OB
def v_left:OV 10 2 5 3 exL=[6]:=by rw[OV,v_fill];kernel_rfl
def v_wot:Ml 10 2 5 3 exL 3=1/\Zo 10 2 5 3 exL [3]=0:=⟨OB,OB⟩
theorem v_card:ZC 2 4 1 2 exS=0:=OB
def v_card4:ZC 2 4 1 2 exS4=0:=OB
def v_wide:KZ 2 4 1 2 exS 2=(93,102)/\PE 2 4 1 2 exS 2=0:=⟨OB,OB⟩
def v_against:Ov 2 4 1 2 (exS.map Ze)=0:=by
 have h:=EL (Ex v_card) (k:=7) OC;rw[Ov];rw[TH];rw[show((2:Int) ^ exS.length - 1)=((7:Nat):Int)from rfl,h,YZ OB]
def En(d:List Int)(h:firstV (d++[0,0])=0):firstV (Zy 2 4 1 2 exS d)=0:=by
 have e:Zy 2 4 1 2 exS d=0::(d++[0,0]):=by rw[Zy,v_card,v_against];rfl
 rw[e,firstV,YZ rfl];exact h
def KR(a:Int)(h:Zv a=0):ZA 2 4 1 2 exS a=0:=En _ (by rw[h];rfl)
def v_mk1:Zw 2 4 1 2 exS 30=(93,100):=by rw[Zw,YZ (KR 30 rfl)];kernel_rfl
def v_mk2:Zw 2 4 1 2 exS 25=(73,80):=by rw[Zw,YZ (KR 25 rfl)];kernel_rfl
def v_hF(k:Int)(h:Tf 76 k=0):MT 2 4 1 2 exS 25 76 k=0:=En _ (by rw[h];rfl)
def v_h1:Pv 2 4 1 2 exS 25 76 4=1:=by rw[Pv,YZ (v_hF 4 rfl)];kernel_rfl
def v_h2:Pv 2 4 1 2 exS 25 76 3=0:=by rw[Pv,YZ (v_hF 3 rfl)];kernel_rfl
def v_best:Np 2 4 1 2 exS 25=(76,4):=by rw[Np,YZ (KR 25 rfl)];kernel_rfl
def v_widF:Q8 2 4 1 2 exS 10 30=0:=En _ rfl
def v_wid:Tq 2 4 1 2 exS 10 30=(14,38,48):=by rw[Tq,YZ v_widF];kernel_rfl
def v_clash:IF 2 4 1 2 exS4=[1,3]:=by rw[qa (Ex v_card4)];kernel_rfl
def v_trust:IP 2 4 1 2 exS4=[0,1,2]:=by rw[jp (Ex v_card4)];kernel_rfl
def DN(l:List Int)(k:Nat)(s:Int)(j:l.length=k)(g:k<=100)(h:OY 10 2 5 3 exL l=s/\Zo 10 2 5 3 exL l=0)(B:Nat)(d:Option NP)(w:U)(o:Meas w)(n:RawA w (J B) exL)(i:RawI w d l):
 NW prog 21 #[stkV B,.slice d k k] w (OI (.tuple #[s,.int I 0]) w):=by
 have e:=og 10 2 5 3 (J B) 7 7 exL d k k l w rfl OC j (XA _) g o n i;rw[h.1,h.2]at e;exact e
def ez(B:Nat)(d:Option NP)(w:U)(i:Meas w)(h:RawA w (J B) exL)(g:RawI w d [0,2,3]):
 NW prog 22 #[stkV B,.slice d 3 3] w λe w'=>∃v,e= NK (.tuple #[v,.int I 0])/\OwnAp w.heap.size w' v (Oq 10 2 5 3 exL [0,2,3])/\Ext w w':=by
 have e:=qL 10 2 5 3 (J B) 7 7 exL d 3 3 [0,2,3] w rfl OC rfl OC OC i h g;rw[v_ap.2.1]at e;exact e
def oY(B:Nat)(w:U)(i:Meas w)(h:RawA w (J B) exL):
 NW prog 23 #[stkV B] w λe w'=>∃g d,e= NK (.tuple #[g,d,.int I 0])/\Shr w.heap.size w' g [[0,1,2],[3,4,5]]/\OwnI w.heap.size w' d [6]/\Ext w w':=by
 have d:=mB 10 2 5 3 (J B) 7 7 exL w rfl OC i h;rw[v_open0,v_fill,v_left]at d;exact d
def gW(B:Nat)(w:U)(e:Meas w)(g:RawA w (J B) exL):
 NW prog 24 #[stkV B,.int I 3] w (OI (.tuple #[.int I 1,.int I 0]) w):=by
 have d:=qw 10 2 5 3 (J B) 7 7 exL 3 w rfl OC e g;rw[v_wot.1,v_wot.2]at d;exact d
def py(D:Nat)(w:U)(e:RawS w (J D) exS):
 NW prog 25 #[OS D 3 3,.int I 2] w (OI (.tuple #[.agg #[.int I 93,.int I 102],.int I 0]) w):=by
 have d:=kB 2 4 1 2 (J D) 3 3 exS 2 w rfl OC e;rw[v_wide.1,v_wide.2]at d;exact d
def cB(a x y:Int)(h:Zv a=0)(i:Zw 2 4 1 2 exS a=(x,y))(D:Nat)(w:U)(g:RawS w (J D) exS)(e:Most w):
 NW prog 26 #[OS D 3 3,a] w (OI (.tuple #[.agg #[x,y],.int I 0]) w):=by
 have d:=jy 2 4 1 2 (J D) 3 3 w a exS rfl g e;rw[i,KR a h]at d;exact d
def AT(k s:Int)(h:Tf 76 k=0)(i:Pv 2 4 1 2 exS 25 76 k=s)(D:Nat)(w:U)(g:RawS w (J D) exS)(e:Most w):
 NW prog 27 #[OS D 3 3,.int I 25,.int I 76,k] w (OI (.tuple #[s,.int I 0]) w):=by
 have d:=nG 2 4 1 2 (J D) 3 3 w 25 76 k exS rfl g e;rw[i,v_hF k h]at d;exact d
def qH(D:Nat)(w:U)(g:RawS w (J D) exS)(e:Most w):
 NW prog 28 #[OS D 3 3,.int I 25] w (OI (.tuple #[.int I 76,.int I 4,.int I 0]) w):=by
 have d:=mD 2 4 1 2 (J D) 3 3 w 25 exS rfl g e;rw[v_best,KR 25 rfl]at d;exact d
def p7(D:Nat)(w:U)(g:RawS w (J D) exS)(e:Most w):
 NW prog 29 #[OS D 3 3,.int I 10,.int I 30] w (OI (.tuple #[.int I 14,.agg #[.int I 38,.int I 48],.int I 0]) w):=by
 have d:=lw 2 4 1 2 (J D) 3 3 w 10 30 exS rfl g e;rw[v_wid,v_widF]at d;exact d
def qZ(D c:Nat)(w:U)(i:RawS w (J D) exS4)(h:Most w)(g:Deb w):
 NW prog 31 #[OS D 4 c] w λe w'=>∃v,e= NK (.tuple #[v,.int I 0])/\OwnI w.heap.size w' v [1,3]/\Ext w w':=by
 have d:=fu 2 4 1 2 (J D) 4 c exS4 w rfl i h g;rw[v_clash,v_card4,YZ rfl]at d;exact d
def jw(D c:Nat)(w:U)(i:RawS w (J D) exS4)(h:Most w)(g:Deb w):
 NW prog 32 #[OS D 4 c] w λe w'=>∃v,e= NK (.tuple #[v,.int I 0])/\OwnI w.heap.size w' v [0,1,2]/\Ext w w':=by
 have d:=mN 2 4 1 2 (J D) 4 c exS4 w rfl i h g;rw[v_trust,v_card4,YZ rfl]at d;exact d
def Qx{l:List Int}(h:w.heap[b]? =J (Z C 3))(e:C.toList=l.map (Value.int I)):RawI w (J b) l:=by
 intro i y d;refine⟨b,0,rfl,Z5 h,?_⟩;rw[Z0 h,VD,<-Array.getElem?_toList,e,List.getElem?_map,d];rfl
def jG(h:w.heap[B]? =J (Z exC 51)):RawA w (J B) exL:=by
 intro i x d;have hi:i<7:=(YI.1 d).1;refine⟨B,0,rfl,Z5 h,?_,?_⟩
 .match i,hi with
  |0,_|1,_|2,_|3,_|4,_|5,_|6,_=>
   obtain rfl:=YT d;exact⟨by rw[Z0 h];rfl,by rw[Z0 h];rfl,by rw[Z0 h];rfl,by rw[Z0 h];rfl,by rw[Z0 h];rfl,by rw[Z0 h];rfl,by rw[Z0 h];rfl⟩
 .match i,hi with
  |0,_|1,_|2,_|3,_|4,_|5,_|6,_=>
   obtain rfl:=YT d;decide
def DI{L:List Rs}(h:w.heap[B]? =J (Z C 75))(o:C.toList.take (L.length*5)=L.flatMap rsC):RawS w (J B) L:=by
 have g:∀(L:List Rs)(i j:Nat)(x:Rs),L[i]? =J x->j<5->(L.flatMap rsC)[i*5+j]? =(rsC x)[j]? :=by
  intro L
  induction L with
  |nil=>intro i j x h;simp at h
  |cons y L p=>
   intro i j x d n;rw[UN];have u:(rsC y).length=5:=rfl;cases i with
   |zero=>
    simp at d;subst d;rw[List.getElem?_append_left OA];simp
   |succ i=>
    rw[List.getElem?_append_right OA,u,show(i+1)*5+j - 5=i*5+j by omega];exact p i j x (by simpa using d) n
 intro i x d;have hi:i<L.length:=(YI.1 d).1;have e:∀j,j<5->w.cell? ⟨B,0+i*5+j,NB⟩=(rsC x)[j]? :=by
  intro j n;rw[Z0 h,VD,<-Array.getElem?_toList,<-g L i j x d n,<-o,List.getElem?_take,YZ OA]
 exact⟨B,0,rfl,Z5 h,e 0 OA,e 1 OA,e 2 OA,e 3 OA,e 4 OA⟩
end Go.Proofs.Tryq
