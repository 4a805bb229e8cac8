import Derived.Test.YthahddndgbpooaaGreatDoorNk09
set_option linter.all false
set_option maxRecDepth 10000
open Go Go.Conc
open Option renaming some->I,none->Z
open Go.Proofs.Tryz renaming prog->J
open Go renaming execOp->U,World->NL,Value->NM,Goroutine->NR,Frame->NN,TypeId->NT,Program->NO,undef->NQ,FuncId->NS
open Go.Value renaming pointer->NI,int->NE,slice->NG
open Go.Obj renaming cells->NH
open Bool renaming false->ND,true->NC
open Go.IntKind renaming i64->NF
variable {a:Addr}{es:Array Event}{ops:Array Oper}{cc z:Array NM}{wr:Bool}{b:NN}{fn:NS}{ds:List Deferred}{k':List Item}{B W c cap d d0 g i j nn:Nat}{Giv Ok S':Nat->Prop}{ad:Option Addr}{pos:String}{s s':Tmp}{u v:NM}{w':NL}
namespace Go.Nk
open Go.ConcN (sumTo upd sumTo_upd upd_ne upd_same)
variable [Ban]
section
variable (P:NO)(Sb:Nat->Prop)(X:MemAct->Prop)(Stop:NN->List NN->NL->Prop)
def OwnTo:Nat->NN->List NN->NL->Prop
 |0,fr,cs,w=>∀d,Stop fr cs (w.at d)
 |n+1,fr,cs,w=>∀d,∃h f p es,stepG P NC (G fr cs) (w.at d)= .go (G h f) p es/\w.heap.size<=p.heap.size/\(∀e∈es,EvL (Zu Sb) p.heap.size e/\X (MemAct.ofEvent e))/\OwnTo n h f p
end
section
variable {P:NO}{Sb:Nat->Prop}{X:MemAct->Prop}{Stop:NN->List NN->NL->Prop}
def OwnTo.at{n:Nat}{f:NN}{cs:List NN}{w:NL}(h:OwnTo P Sb X Stop n f cs w)(d:Nat):OwnTo P Sb X Stop n f cs (w.at d):=by
 cases n with|zero=>exact λe=>h e|succ n=>exact λe=>h e
def cV(hX:∀e,Event.mute e=NC->X (MemAct.ofEvent e)):∀(n:Nat){M:NN}{cs:List NN}{gs:Array NR}{w:NL}{sl:Option (Nat×Nat)}{t:Trace}{q:Nat->Nat},OwnTo P Sb X Stop n M cs w->MacM P Sb M cs gs w t q->(∀op∈t,X op.act)->
 ∃N A x y p T a1 q1,runNT P N (crowd gs w sl) t=(.next (crowd p T a1),A)/\Stop x y T/\MacM P Sb x y p T A q1/\∀op∈A,X op.act:=by
 intro n
 induction n with
 |zero=>exact fun{M cs gs w sl t q} h V ht=>⟨0,t,M,cs,gs,w,sl,q,rfl,h w.drawn,V,ht⟩
 |succ n ih=>
  have a0:∀(k:Nat){M:NN}{cs:List NN}{gs:Array NR}{w:NL}{sl:Option (Nat×Nat)}{t:Trace}{q:Nat->Nat},sumTo gs.size q<=k->OwnTo P Sb X Stop (n+1) M cs w->MacM P Sb M cs gs w t q->(∀op∈t,X op.act)->
   ∃N A x y p T a1 q1,runNT P N (crowd gs w sl) t=(.next (crowd p T a1),A)/\Stop x y T/\MacM P Sb x y p T A q1/\∀op∈A,X op.act:=by
   intro k
   induction k with
   |zero=>
    intro M cs gs w sl t q hk h V ht;rcases FW (sl:=sl) V with⟨d,f,Ah⟩|⟨a4,d,f,ops,q',Ah,a2,A5,a3⟩
    .obtain⟨x,y,T,es,Ax,Ba,Ho,hn⟩:=h d;obtain⟨p,ops,Aj,I8,_,Qc⟩:=GO (sl:=f) (V.at d) Ax Ba (λe Y=>(Ho e Y).1);have J5:∀op∈t++ops,X op.act:=λop A4=>(UX.1 A4).elim (ht op) λh=>by obtain⟨e,Y,ea⟩:=Qc op h;rw[ea];exact(Ho e Y).2
     obtain⟨N,A,r⟩:=ih (sl:=f) hn I8 J5;obtain⟨H,E,K,w2,L,q2,h1,h2⟩:=r;exact⟨N+1,A,H,E,K,w2,L,q2,Q9 (Ah.trans Aj) h1,h2⟩
    .omega
   |succ k a5=>
    intro M cs gs w sl t q hk h V ht;rcases FW (sl:=sl) V with⟨d,f,Ah⟩|⟨a4,d,f,ops,q',Ah,a2,A5,a3⟩
    .obtain⟨x,y,T,es,Ax,Ba,Ho,hn⟩:=h d;obtain⟨p,ops,Aj,I8,_,Qc⟩:=GO (sl:=f) (V.at d) Ax Ba (λe Y=>(Ho e Y).1);have J5:∀op∈t++ops,X op.act:=λop A4=>(UX.1 A4).elim (ht op) λh=>by obtain⟨e,Y,ea⟩:=Qc op h;rw[ea];exact(Ho e Y).2
     obtain⟨N,A,H,E,K,w2,L,q2,h1,h2⟩:=ih (sl:=f) hn I8 J5;exact⟨N+1,A,H,E,K,w2,L,q2,Q9 (Ah.trans Aj) h1,h2⟩
    .obtain⟨N,A,H,E,K,w2,L,q2,h1,h2⟩:=a5 (sl:=f) OA (h.at d) a2 (λop A4=>(UX.1 A4).elim (ht op) λh=>by obtain⟨e,Y,ea⟩:=a3 op h;rw[ea];exact hX e Y);exact⟨N+1,A,H,E,K,w2,L,q2,Q9 Ah h1,h2⟩
  exact fun{M cs gs w sl t q} h V ht=>a0 _ (XA _) h V ht
end
def ZD(n:Nat)(m:Nat->NM)(ds:List Deferred):Act:=⟨Array.ofFn (n:=n) λi=>m i,ds⟩
def Zd(n:Nat)(m:Nat->NM):Operand->NM
 | .tmp t=>if t<n then m t else NQ
 | .const v=>v
 | .global g=> NI (I g)
 | .func f=> .func (.func f) #[] #[]
def upM(m:Nat->NM)(d:Nat)(v:NM):Nat->NM:=λi=>if d=i then v else m i
section
variable {n:Nat}{m:Nat->NM}
omit [Ban]in
def actM_eval:(ZD n m ds).eval=Zd n m:=by
 funext o;cases o with
 |tmp t=>
  simp only[Act.eval,ZD,Zd,Array.getD];by_cases h:t<n
  .simp[h]
  .simp[h]
 |_=>rfl
omit [Ban]in
def Kl(d:Nat)(v:NM):(ZD n m ds).put (I d) v=ZD n (upM m d v) ds:=by
 simp only[ZD,Act.put];congr 1;apply Array.ext
 .simp
 .intro i h1 h2;simp only[Array.size_setIfInBounds,Array.size_ofFn]at h1;rw[Array.getElem_setIfInBounds (by simpa using h1)];simp only[Array.getElem_ofFn,upM]
omit [Ban]in
def PI{o:Oper}(h:o.guard=Z)(y:Nat->Option Bool):Region.wanted o y=NC:=by simp[Region.wanted,h]
end
section
variable {P:NO}{Sb:Nat->Prop}{X:MemAct->Prop}{Stop:NN->List NN->NL->Prop}{n N:Nat}{m:Nat->NM}{k:List Item}{cs:List NN}{w:NL}{rest:List Nat}{o:Oper}
def own_c{y f:NN}{p:List NN}(x:∀w,stepG P NC (G y cs) w= .go (G f p) w #[])(h:OwnTo P Sb X Stop N f p w):OwnTo P Sb X Stop (N+1) y cs w:=
 λd=>⟨f,p,w.at d,#[],x _,XA _,λe e=>by simp at e,h.at d⟩
def own_v(p:b.kind≠.early)(y:ops[i]? =I o)(f:o.dst=I d)(K:o.guard=Z)(L:w.heap.size<=w'.heap.size)
 (E:∀x,(U (Zd n m) o).run P (w.at x)= .ok (.value v) (w'.at x)/\∀e∈(U (Zd n m) o).events P (w.at x) #[],EvL (Zu Sb) w'.heap.size e/\X (MemAct.ofEvent e))
 (h:OwnTo P Sb X Stop N (b.at (ZD n (upM m d v) ds) (.inRegion ops rest::k)) cs w'):OwnTo P Sb X Stop (N+1) (b.at (ZD n m ds) (.inRegion ops (i::rest)::k)) cs w:=by
 intro x;obtain⟨H,A⟩:=E x;have e:=stepG_value (main:=NC) (b:=b) (k:=k) (cs:=cs) (rest:=rest) (a:=ZD n m ds) y (PI K _) p (by rw[actM_eval];exact H);rw[f,Kl]at e;exact⟨_,_,_,_,e,L,λe H=>A e (by have:=RK H;rwa [actM_eval]at this),h.at x⟩
def own_u(p:b.kind≠.early)(y:ops[i]? =I o)(f:o.dst=Z)(K:o.guard=Z)(L:w.heap.size<=w'.heap.size)
 (E:∀x,(U (Zd n m) o).run P (w.at x)= .ok .skip (w'.at x)/\∀e∈(U (Zd n m) o).events P (w.at x) #[],EvL (Zu Sb) w'.heap.size e/\X (MemAct.ofEvent e))
 (h:OwnTo P Sb X Stop N (b.at (ZD n m ds) (.inRegion ops rest::k)) cs w'):OwnTo P Sb X Stop (N+1) (b.at (ZD n m ds) (.inRegion ops (i::rest)::k)) cs w:=by
 intro x;obtain⟨H,A⟩:=E x;have e:=stepG_none (main:=NC) (b:=b) (k:=k) (cs:=cs) (rest:=rest) (a:=ZD n m ds) y (PI K _) p (by rw[actM_eval];exact H);rw[f]at e;exact⟨_,_,_,_,e,L,λe H=>A e (by have:=RK H;rwa [actM_eval]at this),h.at x⟩
end
end Go.Nk
namespace Go.Proofs.Tryv
section
open Go.Nk Go.RowKit
open Go.Proofs.Tryq (theBan Zh ZH link payload wgLib Grew)
attribute [local instance] theBan
attribute [local instance] payload
def opsOf:Code->Array Oper
 | .region _ ops _=>ops
 |_=> #[]
def fstC:Code->Code
 | .seq a _=>a
 | .block _ c=>c
 | .loop c=>c
 |c=>c
def sndC:Code->Code
 | .seq _ b=>b
 |c=>c
noncomputable def body82:Code:=Tryz.f114.body.getD .skip
noncomputable def BE:Code:=fstC (sndC (sndC (sndC body82)))
noncomputable def L82:Code:=fstC (fstC (sndC BE))
noncomputable def B82:Code:=fstC (fstC (sndC (sndC L82)))
noncomputable def T82:Code:=sndC (sndC (sndC (sndC body82)))
noncomputable def q0:Array Oper:=opsOf (fstC body82)
noncomputable def q1:Array Oper:=opsOf (fstC (sndC body82))
noncomputable def q2:Array Oper:=opsOf (fstC (sndC (sndC body82)))
noncomputable def q3:Array Oper:=opsOf (fstC BE)
noncomputable def q4:Array Oper:=opsOf (fstC L82)
noncomputable def q5:Array Oper:=opsOf (fstC B82)
noncomputable def q6:Array Oper:=opsOf (fstC (sndC B82))
noncomputable def q7:Array Oper:=opsOf (sndC (sndC B82))
noncomputable def q8:Array Oper:=opsOf (sndC (sndC (sndC L82)))
noncomputable def q9:Array Oper:=opsOf (fstC T82)
noncomputable def q10:Array Oper:=opsOf (fstC (sndC T82))
def body82_eq:body82= .seq (.region 0 q0 ND) (.seq (.region 1 q1 ND) (.seq (.region 2 q2 ND) (.seq (.seq (.region 3 q3 ND) (.block 0 (.loop L82))) T82))):=rfl
def L82_eq:L82= .seq (.region 4 q4 ND) (.seq (.cond (.tmp 16) .skip (.exit 0)) (.seq (.block 1 (.seq (.region 5 q5 ND) (.seq (.region 6 q6 ND) (.region 7 q7 ND)))) (.region 8 q8 ND))):=rfl
def T82_eq:T82= .seq (.region 9 q9 ND) (.seq (.region 10 q10 ND) .ret):=rfl
def f82_body:Tryz.f114.body=I body82:=rfl
def f82_ntmps:Tryz.f114.ntmps=23:=rfl
def f82_results:Tryz.f114.results= #[.tmp 2]:=rfl
def q0_size:q0.size=2:=OB
def q0_0:∃o,q0[0]? =I o/\o.dst=I 1/\o.op= .box 132 (.tmp 0)/\o.guard=Z:=⟨_,rfl,rfl,rfl,rfl⟩
def q0_1:∃o,q0[1]? =I o/\o.dst=I 2/\o.op= .assign (.const (NG Z 0 0))/\o.guard=Z:=⟨_,rfl,rfl,rfl,rfl⟩
def q1_size:q1.size=7:=OB
def q1_0:∃o,q1[0]? =I o/\o.dst=I 6/\o.op= .fieldAddr 132 (.tmp 1) 0/\o.guard=Z:=⟨_,rfl,rfl,rfl,rfl⟩
def q1_1:∃o,q1[1]? =I o/\o.dst=I 7/\o.op= .fieldAddr 31 (.tmp 6) 1/\o.guard=Z:=⟨_,rfl,rfl,rfl,rfl⟩
def q1_2:∃o,q1[2]? =I o/\o.dst=I 8/\o.op= .load 29 (.tmp 7)/\o.guard=Z:=⟨_,rfl,rfl,rfl,rfl⟩
def q1_3:∃o,q1[3]? =I o/\o.dst=I 9/\o.op= .call {callee:= .builtin .len,args:= #[.tmp 8],argTypes:= #[29]}/\o.guard=Z:=⟨_,rfl,rfl,rfl,rfl⟩
def q1_4:∃o,q1[4]? =I o/\o.dst=I 10/\o.op= .makeSlice 134 (.tmp 9) (.tmp 9)/\o.guard=Z:=⟨_,rfl,rfl,rfl,rfl⟩
def q1_5:∃o,q1[5]? =I o/\o.dst=I 3/\o.op= .alloc 134/\o.guard=Z:=⟨_,rfl,rfl,rfl,rfl⟩
def q1_6:∃o,q1[6]? =I o/\o.dst=Z/\o.op= .store 134 (.tmp 3) (.tmp 10)/\o.guard=Z:=⟨_,rfl,rfl,rfl,rfl⟩
def q2_size:q2.size=1:=OB
def q2_0:∃o,q2[0]? =I o/\o.dst=I 4/\o.op= .alloc 243/\o.guard=Z:=⟨_,rfl,rfl,rfl,rfl⟩
def q3_size:q3.size=5:=OB
def q3_0:∃o,q3[0]? =I o/\o.dst=I 11/\o.op= .fieldAddr 132 (.tmp 1) 0/\o.guard=Z:=⟨_,rfl,rfl,rfl,rfl⟩
def q3_1:∃o,q3[1]? =I o/\o.dst=I 12/\o.op= .fieldAddr 31 (.tmp 11) 1/\o.guard=Z:=⟨_,rfl,rfl,rfl,rfl⟩
def q3_2:∃o,q3[2]? =I o/\o.dst=I 13/\o.op= .load 29 (.tmp 12)/\o.guard=Z:=⟨_,rfl,rfl,rfl,rfl⟩
def q3_3:∃o,q3[3]? =I o/\o.dst=I 14/\o.op= .call {callee:= .builtin .len,args:= #[.tmp 13],argTypes:= #[29]}/\o.guard=Z:=⟨_,rfl,rfl,rfl,rfl⟩
def q3_4:∃o,q3[4]? =I o/\o.dst=I 15/\o.op= .move (.const (NE NF 0))/\o.guard=Z:=⟨_,rfl,rfl,rfl,rfl⟩
def q4_size:q4.size=1:=OB
def q4_0:∃o,q4[0]? =I o/\o.dst=I 16/\o.op= .binOp .lss 3 (.tmp 15) (.tmp 14) 3/\o.guard=Z:=⟨_,rfl,rfl,rfl,rfl⟩
def q5_size:q5.size=3:=OB
def q5_0:∃o,q5[0]? =I o/\o.dst=I 17/\o.op= .move (.tmp 15)/\o.guard=Z:=⟨_,rfl,rfl,rfl,rfl⟩
def q5_1:∃o,q5[1]? =I o/\o.dst=I 5/\o.op= .alloc 3/\o.guard=Z:=⟨_,rfl,rfl,rfl,rfl⟩
def q5_2:∃o,q5[2]? =I o/\o.dst=Z/\o.op= .store 3 (.tmp 5) (.tmp 17)/\o.guard=Z:=⟨_,rfl,rfl,rfl,rfl⟩
def q6_size:q6.size=1:=OB
def q6_0:∃o,q6[0]? =I o/\o.dst=I 18/\o.op= .call {callee:= .value (.func 138),args:= #[.tmp 4,.const (NE NF 1)],argTypes:= #[243,3]}/\o.guard=Z:=⟨_,rfl,rfl,rfl,rfl⟩
def q7_size:q7.size=2:=OB
def q7_0:∃o,q7[0]? =I o/\o.dst=I 19/\o.op= .makeFunc (.func 139) #[] #[.tmp 4,.tmp 1,.tmp 5,.tmp 3]/\o.guard=Z:=⟨_,rfl,rfl,rfl,rfl⟩
def q7_1:∃o,q7[1]? =I o/\o.dst=Z/\o.op= .go {callee:= .value (.tmp 19),args:= #[],argTypes:= #[]}/\o.guard=Z:=⟨_,rfl,rfl,rfl,rfl⟩
def q8_size:q8.size=2:=OB
def q8_0:∃o,q8[0]? =I o/\o.dst=I 20/\o.op= .binOp .add 3 (.tmp 15) (.const (NE NF 1)) 3/\o.guard=Z:=⟨_,rfl,rfl,rfl,rfl⟩
def q8_1:∃o,q8[1]? =I o/\o.dst=I 15/\o.op= .move (.tmp 20)/\o.guard=Z:=⟨_,rfl,rfl,rfl,rfl⟩
def q9_size:q9.size=1:=OB
def q9_0:∃o,q9[0]? =I o/\o.dst=I 21/\o.op= .call {callee:= .value (.func 142),args:= #[.tmp 4],argTypes:= #[243]}/\o.guard=Z:=⟨_,rfl,rfl,rfl,rfl⟩
def q10_size:q10.size=2:=OB
def q10_0:∃o,q10[0]? =I o/\o.dst=I 22/\o.op= .load 134 (.tmp 3)/\o.guard=Z:=⟨_,rfl,rfl,rfl,rfl⟩
def q10_1:∃o,q10[1]? =I o/\o.dst=I 2/\o.op= .assign (.tmp 22)/\o.guard=Z:=⟨_,rfl,rfl,rfl,rfl⟩
end
section
open Go.Nk Go.RowKit
open Go.Proofs.Tryq (theBan Zh ZH link payload wgLib Grew FP)
attribute [local instance] theBan
attribute [local instance] payload
section
variable {o:Oper}{m:Nat->NM}{w:NL}
def Bh(f:o.op= .box 132 (.tmp 0))(h:m 0= .agg cc):(U (Zd 23 m) o).run J w= .ok (.value (NI (I w.heap.size))) (w.alloc (NH cc 132))/\∀e∈(U (Zd 23 m) o).events J w #[],False:=by
 have e:Zd 23 m (.tmp 0)= .agg cc:=h;unfold U;simp only[f,e];constructor
 .simp[go_sem,Instr.box,Value.cells]
 .intro e he;simp[go_sem,Instr.box]at he
def By{op:Op}(f:o.op=op)(h:op= .assign (.const v)\/op= .move (.const v)):(U (Zd 23 m) o).run J w= .ok (.value v) w/\∀e∈(U (Zd 23 m) o).events J w #[],False:=by
 unfold U;rcases h with rfl|rfl
 all_goals
  simp only[f];constructor
  .simp[Zd]
  .intro e he;simp at he
def Et{op:Op}(f:o.op=op)(h:op= .assign (.tmp s)\/op= .move (.tmp s))(p:s<23):(U (Zd 23 m) o).run J w= .ok (.value (m s)) w/\∀e∈(U (Zd 23 m) o).events J w #[],False:=by
 have e:Zd 23 m (.tmp s)=m s:=YZ p;unfold U;rcases h with rfl|rfl
 all_goals
  simp only[f,e];constructor
  .simp
  .intro e he;simp at he
def dp(f:o.op= .fieldAddr 132 (.tmp s) 0)(x:s<23)(h:m s= NI (I a)):(U (Zd 23 m) o).run J w= .ok (.value (NI (I a))) w/\∀e∈(U (Zd 23 m) o).events J w #[],False:=by
 have e:Zd 23 m (.tmp s)= NI (I a):=(YZ x).trans h;have p:a.add 0=a:=rfl;unfold U;simp only[f,e];constructor
 .simp[go_sem,Instr.fieldAt,fieldPlace,p]
 .intro e he;simp[go_sem,Instr.fieldAt,fieldPlace]at he
def cQ(f:o.op= .fieldAddr 31 (.tmp s) 1)(p:s<23)(h:m s= NI (I a)):(U (Zd 23 m) o).run J w= .ok (.value (NI (I (a.add 4)))) w/\∀e∈(U (Zd 23 m) o).events J w #[],False:=by
 have e:Zd 23 m (.tmp s)= NI (I a):=(YZ p).trans h;unfold U;simp only[f,e];constructor
 .simp[go_sem,Instr.fieldAt,fieldPlace]
 .intro e he;simp[go_sem,Instr.fieldAt,fieldPlace]at he
def dm{t:NT}(p:o.op= .load t (.tmp s))(x:t=29\/t=134)(y:s<23)(h:m s= NI (I a))(f:w.cell? a=I v):(U (Zd 23 m) o).run J w= .ok (.value v) w/\∀e∈(U (Zd 23 m) o).events J w #[],e=⟨.cell a,ND,ND⟩:=by
 have e:Zd 23 m (.tmp s)= NI (I a):=(YZ y).trans h;unfold U;simp only[p,e];rcases x with rfl|rfl
 all_goals
  constructor
  .simp[go_sem,Instr.loadAt,f]
  .intro e he;simp[go_sem,Instr.loadAt,f]at he;exact he
def bF{b:Option Addr}{n:Nat}(f:o.op= .call {callee:= .builtin .len,args:= #[.tmp s],argTypes:= #[29]})(p:s<23)(h:m s= NG b n c):(U (Zd 23 m) o).run J w= .ok (.value (NE NF n)) w/\∀e∈(U (Zd 23 m) o).events J w #[],False:=by
 have e:Zd 23 m (.tmp s)= NG b n c:=(YZ p).trans h;have em:(#[Operand.tmp s]:Array Operand).map (Zd 23 m)= #[NG b n c]:=by simp only[TD,VG,VX,e]
 unfold U;simp only[f,resolve,em];constructor
 .simp[go_sem,invoke,builtin,Builtin.len_]
 .intro e he;simp[go_sem,invoke,builtin,Builtin.len_]at he
def r_mk{n:Nat}(E:n<=8)(y:o.op= .makeSlice 134 (.tmp 9) (.tmp 9))(h:m 9= NE NF n):(U (Zd 23 m) o).run J w= .ok (.value (NG (I w.heap.size) n n)) (w.alloc (NH (ZH w.heap.size n 0) 188))/\∀e∈(U (Zd 23 m) o).events J w #[],e=⟨.mark .noRoom,ND,NC⟩:=by
 have e:Zd 23 m (.tmp 9)= NE NF n:=h;have p:Tryz.t188.bytes=8:=OB
 have x:Tryz.t188.size=1:=OB
 have A:Tryz.t188.zero=I (NI Z):=OB
 have hi:Tryz.prog.info? 188=I Tryz.t188:=OB
 have f:=run_makeSlice (P:=J) w 134 188 Tryz.t188 (NI Z) Tryz.underlying134 hi A NF NF n n OA OA (by rw[x];omega) (by rw[p];omega) OA;rw[x]at f;simp only[US]at f;rw[FP w.heap.size n]at f;unfold U;simp only[y,e];constructor
 .simp[go_sem,f]
 .intro e e;simp[go_sem,Instr.makeSlice]at e;have f:IntKind.i64.wrap (n:Int)=n:=by rw[IntKind.wrap_i64];omega
  have e:=e.2;rw[f,p,US]at e;unfold askRoom at e;simp[go_sem]at e;exact e.2
def DR{t:NT}(f:o.op= .alloc t)(h:(t=134/\z= #[NG Z 0 0])\/(t=243/\z= #[NE .u64 0,NE .u32 0])\/(t=3/\z= #[NE NF 0])):(U (Zd 23 m) o).run J w= .ok (.value (NI (I w.heap.size))) (w.alloc (NH z t))/\∀e∈(U (Zd 23 m) o).events J w #[],False:=by
 unfold U;rcases h with⟨rfl,rfl⟩|⟨rfl,rfl⟩|⟨rfl,rfl⟩
 all_goals
  simp only[f];constructor
  .simp[go_sem,Instr.alloc,Value.cells]
  .intro e he;simp[go_sem,Instr.alloc]at he
def EI{t:NT}(y:o.op= .store t (.tmp s) (.tmp s'))(K:s<23)(x:s'<23)(h:m s= NI (I a))(E:m s'=v)(H:(t=134/\∃b n c,v= NG b n c)\/(t=3/\∃n,v= NE NF n))(f:w.cell? a=I u)(p:w.frozen? a=ND):
 (U (Zd 23 m) o).run J w= .ok .skip (w.setCell a v)/\∀e∈(U (Zd 23 m) o).events J w #[],e=⟨.cell a,NC,ND⟩:=by
 have e:Zd 23 m (.tmp s)= NI (I a):=(YZ K).trans h;have A:Zd 23 m (.tmp s')=v:=(YZ x).trans E;unfold U;rcases H with⟨rfl,b,n,c,rfl⟩|⟨rfl,n,rfl⟩
 .simp only[y,e,A];constructor
  .simp[go_sem,Instr.storeAt,stored,f,p]
  .intro e he;simp[go_sem,Instr.storeAt,events_store J w #[] a (NG b n c) .plain rfl,storedEv,f,p]at he;exact he
 .simp only[y,e,A];constructor
  .simp[go_sem,Instr.storeAt,stored,f,p]
  .intro e he;simp[go_sem,Instr.storeAt,storedEv,f,p]at he;exact he
def bo{n:Nat}(f:o.op= .binOp .lss 3 (.tmp 15) (.tmp 14) 3)(h:m 15= NE NF i)(p:m 14= NE NF n):(U (Zd 23 m) o).run J w= .ok (.value (.bool (decide ((i:Int)<n)))) w/\∀e∈(U (Zd 23 m) o).events J w #[],False:=by
 have e:Zd 23 m (.tmp 15)= NE NF i:=h;have x:Zd 23 m (.tmp 14)= NE NF n:=p;unfold U;simp only[f,e,x];constructor
 .simp[go_sem,eqGuard,Go.binOp]
 .intro e he;simp[go_sem,eqGuard,Go.binOp]at he
def gZ(hi:i<=8)(f:o.op= .binOp .add 3 (.tmp 15) (.const (NE NF 1)) 3)(h:m 15= NE NF i):(U (Zd 23 m) o).run J w= .ok (.value (NE NF ((i+1:Nat):Int))) w/\∀e∈(U (Zd 23 m) o).events J w #[],False:=by
 have e:Zd 23 m (.tmp 15)= NE NF i:=h;have x:Zd 23 m (.const (NE NF 1))= NE NF 1:=rfl;have p:IntKind.i64.wrap ((i:Int)+1)=i+1:=by rw[IntKind.wrap_i64];omega
 unfold U;simp only[f,e,x];constructor
 .simp[go_sem,eqGuard,Go.binOp,p]
 .intro e he;simp[go_sem,eqGuard,Go.binOp]at he
end
def Ur(W:Nat)(x:MemAct):Prop:=(∀y,x.touch? =I y->¬Go.ConcN.ShN W y.loc)/\x≠.mark (.release (Go.ConcR.stA W))
def aX(h:a.block≠W):Ur W (MemAct.ofEvent ⟨.cell a,wr,ND⟩):=by
 refine⟨λy e=> ?_,by cases wr<;>simp[MemAct.ofEvent]⟩;simp only[Go.ConcR.ofEvent_cell,MemAct.touch?,XM]at e;subst e;rintro⟨x,p,f⟩;cases p;exact h f
def mf:Ur W (MemAct.ofEvent ⟨.mark .noRoom,ND,NC⟩):=
 ⟨λx e=>by simp[MemAct.ofEvent,MemAct.touch?]at e,by simp[MemAct.ofEvent]⟩
def pD{Sb:Nat->Prop}:EvL (Zu Sb) B ⟨.mark .noRoom,ND,NC⟩:=
 ⟨λx e=>by simp[MemAct.ofEvent,MemAct.touch?]at e,OD,OD,by simp[MemAct.ofEvent,MemAct.low]⟩
def CH{Sb:Nat->Prop}(h:¬Sb a.block)(f:a.block<B):EvL (Zu Sb) B ⟨.cell a,wr,ND⟩:=by
 refine evL_cell _ _ ?_ f;rintro⟨x,p,e⟩;cases p;exact h e
def N4(cc:Array NM)(B n:Nat):List Obj:=[NH cc 132,NH (ZH (B+1) n 0) 188,NH #[NG (I ⟨B+1,0,Z⟩) n n] 134,NH #[NE .u64 0,NE .u32 0] 243]
section
variable {P:NO}{Sb:Nat->Prop}{X:MemAct->Prop}{Stop:NN->List NN->NL->Prop}{n N:Nat}{m:Nat->NM}{k:List Item}{cs:List NN}{w:NL}{rest:List Nat}{o:Oper}
def own_c{x e:NN}{f:List NN}(p:∀w,stepG P NC (G x cs) w= .go (G e f) w #[])(h:∃N,OwnTo P Sb X Stop N e f w):∃N,OwnTo P Sb X Stop N x cs w:=let ⟨_,h⟩:=h;⟨_,Nk.own_c p h⟩
def own_v{d:Nat}{v:NM}{w':NL}(p:b.kind≠.early)(y:ops[i]? =I o)(f:o.dst=I d)(E:o.guard=Z)(H:w.heap.size<=w'.heap.size)
 (A:∀x,(U (Zd n m) o).run P (w.at x)= .ok (.value v) (w'.at x)/\∀e∈(U (Zd n m) o).events P (w.at x) #[],EvL (Zu Sb) w'.heap.size e/\X (MemAct.ofEvent e))
 (h:∃N,OwnTo P Sb X Stop N (b.at (ZD n (upM m d v) ds) (.inRegion ops rest::k)) cs w'):∃N,OwnTo P Sb X Stop N (b.at (ZD n m ds) (.inRegion ops (i::rest)::k)) cs w:=let ⟨_,h⟩:=h;⟨_,Nk.own_v p y f E H A h⟩
def own_u{w':NL}(p:b.kind≠.early)(y:ops[i]? =I o)(f:o.dst=Z)(E:o.guard=Z)(H:w.heap.size<=w'.heap.size)
 (A:∀x,(U (Zd n m) o).run P (w.at x)= .ok .skip (w'.at x)/\∀e∈(U (Zd n m) o).events P (w.at x) #[],EvL (Zu Sb) w'.heap.size e/\X (MemAct.ofEvent e))
 (h:∃N,OwnTo P Sb X Stop N (b.at (ZD n m ds) (.inRegion ops rest::k)) cs w'):∃N,OwnTo P Sb X Stop N (b.at (ZD n m ds) (.inRegion ops (i::rest)::k)) cs w:=let ⟨_,h⟩:=h;⟨_,Nk.own_u p y f E H A h⟩
def Ph(y:b.kind≠.early)(A:ops[i]? =I o)(p:o.dst=I d)(E:o.guard=Z)(f:∀x:NL,(U (Zd n m) o).run P x= .ok (.value v) x/\∀e∈(U (Zd n m) o).events P x #[],False)
 (h:∃N,OwnTo P Sb X Stop N (b.at (ZD n (upM m d v) ds) (.inRegion ops rest::k)) cs w):∃N,OwnTo P Sb X Stop N (b.at (ZD n m ds) (.inRegion ops (i::rest)::k)) cs w:=
 own_v y A p E (XA _) (λx=>⟨(f _).1,λe x=>((f _).2 e x).elim⟩) h
end
section
variable {o:Oper}{m:Nat->NM}{w:NL}{Sb:Nat->Prop}
def Hw(w:NL)(f:Obj):w.heap.size<=(w.alloc f).heap.size:=by
 have e:(w.alloc f).heap=w.heap.push f:=rfl;rw[e];simp
def gI(f:o.op= .box 132 (.tmp 0))(h:m 0= .agg cc)(x:Nat):(U (Zd 23 m) o).run J (w.at x)= .ok (.value (NI (I w.heap.size))) ((w.alloc (NH cc 132)).at x)/\∀e∈(U (Zd 23 m) o).events J (w.at x) #[],EvL (Zu Sb) (w.alloc (NH cc 132)).heap.size e/\Ur W (MemAct.ofEvent e):=
 ⟨(Bh (w:=w.at x) f h).1,λe p=>((Bh (w:=w.at x) f h).2 e p).elim⟩
def mk_at{n:Nat}(p:n<=8)(f:o.op= .makeSlice 134 (.tmp 9) (.tmp 9))(h:m 9= NE NF n)(x:Nat):(U (Zd 23 m) o).run J (w.at x)= .ok (.value (NG (I w.heap.size) n n)) ((w.alloc (NH (ZH w.heap.size n 0) 188)).at x)/\
 ∀e∈(U (Zd 23 m) o).events J (w.at x) #[],EvL (Zu Sb) (w.alloc (NH (ZH w.heap.size n 0) 188)).heap.size e/\Ur W (MemAct.ofEvent e):=
 ⟨(r_mk (w:=w.at x) p f h).1,λe y=>by rw[(r_mk (w:=w.at x) p f h).2 e y];exact⟨pD,mf⟩⟩
def bp{t:NT}(f:o.op= .alloc t)(h:(t=134/\z= #[NG Z 0 0])\/(t=243/\z= #[NE .u64 0,NE .u32 0])\/(t=3/\z= #[NE NF 0]))(x:Nat):
 (U (Zd 23 m) o).run J (w.at x)= .ok (.value (NI (I w.heap.size))) ((w.alloc (NH z t)).at x)/\∀e∈(U (Zd 23 m) o).events J (w.at x) #[],EvL (Zu Sb) (w.alloc (NH z t)).heap.size e/\Ur W (MemAct.ofEvent e):=
 ⟨(DR (w:=w.at x) f h).1,λe p=>((DR (w:=w.at x) f h).2 e p).elim⟩
def GI{t:NT}(f:o.op= .load t (.tmp s))(p:t=29\/t=134)(y:s<23)(h:m s= NI (I a))(A:w.cell? a=I v)(K:¬Sb a.block)(L:a.block<w.heap.size)(E:a.block≠W)(x:Nat):
 (U (Zd 23 m) o).run J (w.at x)= .ok (.value v) (w.at x)/\∀e∈(U (Zd 23 m) o).events J (w.at x) #[],EvL (Zu Sb) w.heap.size e/\Ur W (MemAct.ofEvent e):=
 ⟨(dm (w:=w.at x) f p y h A).1,λe H=>by rw[(dm (w:=w.at x) f p y h A).2 e H];exact⟨CH K L,aX E⟩⟩
def kD(w:NL)(a:Addr)(v:NM)(x:Nat):(w.at x).setCell a v=(w.setCell a v).at x:=by
 unfold World.setCell World.at;split<;>simp_all
def iO{t:NT}(p:o.op= .store t (.tmp s) (.tmp s'))(E:s<23)(f:s'<23)(h:m s= NI (I a))(y:m s'=v)(A:(t=134/\∃b n c,v= NG b n c)\/(t=3/\∃n,v= NE NF n))(H:w.cell? a=I u)(K:w.frozen? a=ND)(T:¬Sb a.block)(V:a.block<(w.setCell a v).heap.size)(L:a.block≠W)(x:Nat):
 (U (Zd 23 m) o).run J (w.at x)= .ok .skip ((w.setCell a v).at x)/\∀e∈(U (Zd 23 m) o).events J (w.at x) #[],EvL (Zu Sb) (w.setCell a v).heap.size e/\Ur W (MemAct.ofEvent e):=
 ⟨by rw[<-kD];exact(EI (w:=w.at x) p E f h y A H K).1,λe M=>by rw[(EI (w:=w.at x) p E f h y A H K).2 e M];exact⟨CH T V,aX L⟩⟩
end
def iS(x:NM):Frame.enter J 114 #[x] .normal=(base 114).at (ZD 23 (λi=>if i=0 then x else NQ) []) [.code body82]:=by
 rw[enter_at #[x] Tryz.func114 f82_body];have e: #[x]++Array.replicate (Tryz.f114.ntmps - (#[x]:Array NM).size) NQ=(ZD 23 (λi=>if i=0 then x else NQ) []).tmps:=by
  rw[f82_ntmps];show #[x]++Array.replicate 22 NQ=_;apply Array.ext';simp[ZD,List.replicate_succ,List.ofFn_succ]
 rw[e];rfl
def pre82{Sb:Nat->Prop}{Stop:NN->List NN->NL->Prop}{cs:List NN}{w:NL}(hn:nn<=8)(T:cc[4]? =I (NG ad nn cap))(Ji:∀b,Sb b->b<w.heap.size)
 (Y:∀(m:Nat->NM)(H:NL),Grew w H (N4 cc w.heap.size nn)->m 1= NI (I w.heap.size)->m 3= NI (I ⟨w.heap.size+2,0,Z⟩)->m 4= NI (I ⟨w.heap.size+3,0,Z⟩)->m 14= NE NF nn->m 15= NE NF (0:Nat)->
   Stop ((base 114).at (ZD 23 m []) [.code L82,.inLoop L82,.inBlock 0,.code T82]) cs H):
 ∃N,OwnTo J Sb (Ur (w.heap.size+3)) Stop N (Frame.enter J 114 #[.agg cc] .normal) cs w:=by
 rw[iS,body82_eq];have A:(base 114).kind≠.early:=OC
 refine own_c (λw=>XJ) ?_;refine own_c (λw=>UQ) ?_;rw[q0_size];obtain⟨o,y,e,p,f⟩:=q0_0;refine own_v A y e f (Hw _ _) (gI (cc:=cc) p rfl) ?_;have E:Grew w (w.alloc (NH cc 132)) [NH cc 132]:=(Grew.nil w).push _;generalize w.alloc (NH cc 132)=H at E⊢;obtain⟨o,y,e,p,f⟩:=q0_1;refine Ph A y e f (λx=>By p (.inl rfl)) ?_;refine own_c (λw=>XD) ?_;refine own_c (λw=>XJ) ?_;refine own_c (λw=>UQ) ?_;rw[q1_size];obtain⟨o,y,e,p,f⟩:=q1_0;refine Ph A y e f (λx=>dp (a:=⟨w.heap.size,0,Z⟩) p OC rfl) ?_;obtain⟨o,y,e,p,f⟩:=q1_1;refine Ph A y e f (λx=>cQ (a:=⟨w.heap.size,0,Z⟩) p OC rfl) ?_;have K:H.cell? ⟨w.heap.size,4,Z⟩=I (NG ad nn cap):=(E.cellNew 0 rfl 4).trans T;have L:∀j,¬Sb (w.heap.size+j):=λj h=>by have:=Ji _ h;omega
 have h:H.heap.size=w.heap.size+1:=E.size;obtain⟨o,y,e,p,f⟩:=q1_2;refine own_v A y e f (XA _) (GI (a:=⟨w.heap.size,4,Z⟩) p (.inl rfl) OC rfl K (L 0) (by show w.heap.size<_;omega) (by show w.heap.size≠_;omega)) ?_;obtain⟨o,y,e,p,f⟩:=q1_3;refine Ph A y e f (λx=>bF (b:=ad) (n:=nn) (c:=cap) p OC rfl) ?_;obtain⟨o,y,e,p,f⟩:=q1_4;refine own_v A y e f (Hw _ _) (mk_at hn p rfl) ?_;rw[h];have E:=E.push (NH (ZH (w.heap.size+1) nn 0) 188);generalize H.alloc (NH (ZH (w.heap.size+1) nn 0) 188)=h at E⊢;have H:h.heap.size=w.heap.size+2:=E.size;obtain⟨o,y,e,p,f⟩:=q1_5;refine own_v A y e f (Hw _ _) (bp (z:= #[NG Z 0 0]) p (.inl ⟨rfl,rfl⟩)) ?_;rw[H];have E:=E.push (NH #[NG Z 0 0] 134);generalize h.alloc (NH #[NG Z 0 0] 134)=M at E⊢;have V:M.heap.size=w.heap.size+3:=E.size;have H:=E.setCell 2 rfl 0 (NG (I ⟨w.heap.size+1,0,Z⟩) nn nn);have h:=H.size;obtain⟨o,y,e,p,f⟩:=q1_6;refine own_u A y e f (by rw[h,V];simp) (iO (a:=⟨w.heap.size+2,0,Z⟩) (v:= NG (I ⟨w.heap.size+1,0,Z⟩) nn nn) p OC OC rfl rfl (.inl ⟨rfl,_,_,_,rfl⟩) (E.cellNew 2 rfl 0) (E.thaw 2 rfl 0) (L 2) (by show w.heap.size+2<_;rw[h];simp) (by show w.heap.size+2≠_;omega)) ?_
 clear h;generalize M.setCell ⟨w.heap.size+2,0,Z⟩ (NG (I ⟨w.heap.size+1,0,Z⟩) nn nn)=E at H⊢;refine own_c (λw=>XD) ?_;refine own_c (λw=>XJ) ?_;refine own_c (λw=>UQ) ?_;rw[q2_size];have h:E.heap.size=w.heap.size+3:=H.size;obtain⟨o,y,e,p,f⟩:=q2_0;refine own_v A y e f (Hw _ _) (bp (z:= #[NE .u64 0,NE .u32 0]) p (.inr (.inl ⟨rfl,rfl⟩))) ?_;rw[h];have h:=H.push (NH #[NE .u64 0,NE .u32 0] 243);generalize E.alloc (NH #[NE .u64 0,NE .u32 0] 243)=E at h⊢;have h:Grew w E (N4 cc w.heap.size nn):=h;have H:E.heap.size=w.heap.size+4:=h.size;refine own_c (λw=>XD) ?_;refine own_c (λw=>XJ) ?_;refine own_c (λw=>XJ) ?_;refine own_c (λw=>UQ) ?_;rw[q3_size];obtain⟨o,y,e,p,f⟩:=q3_0;refine Ph A y e f (λx=>dp (a:=⟨w.heap.size,0,Z⟩) p OC rfl) ?_;obtain⟨o,y,e,p,f⟩:=q3_1;refine Ph A y e f (λx=>cQ (a:=⟨w.heap.size,0,Z⟩) p OC rfl) ?_;have K:E.cell? ⟨w.heap.size,4,Z⟩=I (NG ad nn cap):=(h.cellNew 0 rfl 4).trans T;obtain⟨o,y,e,p,f⟩:=q3_2;refine own_v A y e f (XA _) (GI (a:=⟨w.heap.size,4,Z⟩) p (.inl rfl) OC rfl K (L 0) (by show w.heap.size<_;omega) (by show w.heap.size≠_;omega)) ?_
 obtain⟨o,y,e,p,f⟩:=q3_3;refine Ph A y e f (λx=>bF (b:=ad) (n:=nn) (c:=cap) p OC rfl) ?_;obtain⟨o,y,e,p,f⟩:=q3_4;refine Ph A y e f (λx=>By p (.inr rfl)) ?_;refine own_c (λw=>XD) ?_;refine own_c (λw=>stepG_block) ?_;refine own_c (λw=>stepG_loop) ?_;refine⟨0,λd=>Y _ _ ?_ rfl rfl rfl rfl rfl⟩;exact⟨h.size,h.old,h.new,h.tape,h.oss,h.output⟩
end
end Go.Proofs.Tryv
namespace Go.Nk
section
open Go.ConcN (ShN WgLive PayAt Has CTag RW upd upd_same upd_ne WD RelBy get_map_set get_map_set_same norel_of Deaf_absent Deaf_still)
open Go.ConcR (KK WgAt stA smA rd wr mk Payload DC0 g_of_ofEvents)
variable [Payload]
def WG(C:Nat)(O:Nat->Nat->Prop)(k:Nat)(l:Loc):Prop:=LB (O k) l\/l= .cell ⟨C,k,Z⟩
def RdL(Sb:Nat->Prop)(Rk:Nat->Nat->Prop)(k:Nat)(l:Loc):Prop:=LB (Rk k) l/\¬Zu Sb l
structure GeoN(Wg C:Nat)(Sb:Nat->Prop)(w:NL)(j:Nat)(O Rk:Nat->Nat->Prop)(Giv o:Nat->Prop):Prop where
 sep:∀k,k<j->∀b,O k b->b<w.heap.size/\b≠Wg/\b≠C/\¬o b
 sep2:∀k k',k<j->k'<j->k≠k'->∀b,O k b->¬O k' b
 mo:∀b,o b->b<w.heap.size/\b≠Wg/\b≠C
 rdo:∀k,k<j->∀b,Rk k b->Giv b
 giv:∀b,Giv b->o b
 sb:∀b,Sb b->o b
 hWg:Wg<w.heap.size
 hC:C<w.heap.size
 hCW:C≠Wg
def rA{S:Nat->Prop}{l:Loc}(h:LB S l)(f:LB S' l):∃b,S b/\S' b:=by
 rcases h with⟨a,rfl,h⟩|⟨r,rfl,h⟩<;>rcases f with⟨_,e,f⟩|⟨_,e,f⟩<;>cases e
 .exact⟨_,h,f⟩
 .exact⟨_,h,f⟩
def MI{S:Nat->Prop}(h:LB S (.cell a)):S a.block:=by
 rcases h with⟨_,e,h⟩|⟨r,e,h⟩<;>cases e
 exact h
def ab{S:Nat->Prop}{l:Loc}(h:LB S l):l.isMemory=NC:=by
 rcases h with⟨a,rfl,h⟩|⟨r,rfl,h⟩<;>rfl
def bK{S:Nat->Prop}{l:Loc}(h:LB S l)(e:∀b,S b->S' b):LB S' l:=by
 rcases h with⟨a,rfl,h⟩|⟨r,rfl,h⟩
 .exact .inl ⟨a,rfl,e _ h⟩
 .exact .inr ⟨r,rfl,e _ h⟩
def GeoN.apart{Wg C:Nat}{Sb:Nat->Prop}{w:NL}{O Rk:Nat->Nat->Prop}{o:Nat->Prop}(h:GeoN Wg C Sb w j O Rk Giv o):ApartN (ShN Wg) (Zu Sb) (WG C O) (RdL Sb Rk) j:=by
 refine⟨λk k' l f e h1 h2=> ?_,λk k' l f e h1 h2=> ?_,λk l f h1=>⟨λh2=> ?_,λh2=> ?_⟩,λk l f h1=>⟨λh2=> ?_,h1.2⟩⟩
 .rcases h1 with h1|rfl<;>rcases h2 with h2|h2
  .apply VQ;intro y;obtain⟨b,x,p⟩:=rA h1 h2;exact h.sep2 k k' f e y b x p
  .subst h2;exact absurd rfl (h.sep k f _ (MI h1)).2.2.1
  .exact absurd rfl (h.sep k' e _ (MI h2)).2.2.1
  .cases h2;rfl
 .rcases h1 with h1|rfl
  .obtain⟨b,x,p⟩:=rA h1 h2.1;exact(h.sep k f b x).2.2.2 (h.giv b (h.rdo k' e b p))
  .exact absurd rfl (h.mo _ (h.giv _ (h.rdo k' e _ (MI h2.1)))).2.2
 .obtain⟨a,rfl,ha⟩:=h2;rcases h1 with h1|h1
  .exact(h.sep k f _ (MI h1)).2.1 ha
  .cases h1;exact h.hCW ha
 .obtain⟨a,rfl,ha⟩:=h2;rcases h1 with h1|h1
  .exact(h.sep k f _ (MI h1)).2.2.2 (h.sb _ ha)
  .cases h1;exact(h.mo _ (h.sb _ ha)).2.2 rfl
 .obtain⟨a,rfl,ha⟩:=h2;exact(h.mo _ (h.giv _ (h.rdo k f _ (MI h1.1)))).2.1 ha
section
variable (P:NO)(ty:NT)(Wg C n:Nat)(Sb:Nat->Prop)(Res:Nat->(Nat->Prop)->NM->NL->Prop)
structure ComN(N0 j:Nat)(gs:Array NR)(w:NL)(t:Trace)(D:Nat->WD)(O Rk:Nat->Nat->Prop)(val:Nat->NM)(F:Nat->Tr)(q:Nat->Nat)(Giv o:Nat->Prop)(d0:Nat):Prop where
 size:gs.size=N0+j
 wk:∀k,k<j->∃g,gs[N0+k]? =I g/\WS P ty Wg C n Sb Res k (Rk k) (val k) (D k).stage (O k) (F (N0+k)) (D k).deaf g w
 old:∀i,0<i->i<N0->∃g,gs[i]? =I g/\QuitsD P (q i) (Deaf t i) g/\F i=Tr.ofNat (q i)
 tn:TN N0 (ShN Wg) (Zu Sb) (WG C O) (RdL Sb Rk) t j
 oldk:OldK N0 (Zu Sb) t
 norel:NoRelease (stA Wg) t
 deaf0:Deaf t 0=d0
 deafW:∀k,k<j->Deaf t (N0+k)=(D k).deaf
 rel:∀k,k<j->(D k).stage<=6->∃r,RelN (ShN Wg) (stA Wg) t (N0+k) r
 has:∀k,k<j->(D k).stage<=6->Has C k (val k) w/\Res k (O k) (val k) w
 pay:PayAt C n w
 low:∀op∈t,op.act.low w.heap.size
 geo:GeoN Wg C Sb w j O Rk Giv o
def ResOk:Prop:=∀k o v w e,(∀b,o b->e.heap[b]? =w.heap[b]?)->Res k o v w->Res k o v e
end
section
variable {P:NO}{ty:NT}{Wg C n:Nat}{Sb:Nat->Prop}{Res:Nat->(Nat->Prop)->NM->NL->Prop}{N0:Nat}{gs:Array NR}{w:NL}{t:Trace}{D:Nat->WD}{O Rk:Nat->Nat->Prop}{val:Nat->NM}{F:Nat->Tr}{q:Nat->Nat}{o:Nat->Prop}
def GeoN.step(h:GeoN Wg C Sb w j O Rk Giv o)(f:w.heap.size<=w'.heap.size):GeoN Wg C Sb w' j O Rk Giv o:=
 ⟨λk p b e=>⟨YS (h.sep k p b e).1 f,(h.sep k p b e).2⟩,h.sep2,λb e=>⟨YS (h.mo b e).1 f,(h.mo b e).2⟩,h.rdo,h.giv,h.sb,YS h.hWg f,YS h.hC f,h.hCW⟩
def GeoN.growW(h:GeoN Wg C Sb w j O Rk Giv o)(V:w.heap.size<=w'.heap.size){k:Nat}{Ok:Nat->Prop}(K:∀b,Ok b->O k b\/(w.heap.size<=b/\b<w'.heap.size)):GeoN Wg C Sb w' j (upd O k Ok) Rk Giv o:=by
 have p:=h.step V;have T:=h.hWg;have Y:=h.hC;refine⟨λk' y b f=> ?_,λk1 k2 H E A b f=> ?_,p.mo,p.rdo,p.giv,p.sb,p.hWg,p.hC,p.hCW⟩
 .by_cases e:k'=k
  .subst e;rw[VK]at f;rcases K b f with f|⟨M,L⟩
   .exact p.sep k' y b f
   .exact⟨L,OA,OA,λx=>by have:=(h.mo b x).1;omega⟩
  .rw[upd_ne O _ e]at f;exact p.sep k' y b f
 .by_cases e1:k1=k
  .subst e1;rw[VK]at f;rw[upd_ne O _ (SJ A)];rcases K b f with f|⟨M,L⟩
   .exact h.sep2 _ _ H E A b f
   .exact λx=>by have:=(h.sep k2 E b x).1;omega
  .rw[upd_ne O _ e1]at f;by_cases e2:k2=k
   .subst e2;rw[VK];intro x;rcases K b x with x|⟨M,L⟩
    .exact h.sep2 _ _ H E A b f x
    .have:=(h.sep k1 H b f).1;omega
   .rw[upd_ne O _ e2];exact h.sep2 _ _ H E A b f
def GeoN.grow0(h:GeoN Wg C Sb w j O Rk Giv o)(p:w.heap.size<=w'.heap.size):GeoN Wg C Sb w' j O Rk Giv (grow o w w'):=by
 have e:=h.hWg;have e:=h.hC;refine⟨λk f b e=>⟨YS (h.sep k f b e).1 p,(h.sep k f b e).2.1,(h.sep k f b e).2.2.1,?_⟩,h.sep2,λb e=> ?_,h.rdo,λb e=> .inl (h.giv b e),λb e=> .inl (h.sb b e),YS h.hWg p,YS h.hC p,h.hCW⟩
 .rintro(ho|⟨y,x⟩)
  .exact(h.sep k f b e).2.2.2 ho
  .have:=(h.sep k f b e).1;omega
 .rcases e with e|⟨y,x⟩
  .exact⟨YS (h.mo b e).1 p,(h.mo b e).2⟩
  .exact⟨x,OA,OA⟩
def ComN.at(h:ComN P ty Wg C n Sb Res N0 j gs w t D O Rk val F q Giv o d0)(p:ResOk Res)(d:Nat):ComN P ty Wg C n Sb Res N0 j gs (w.at d) t D O Rk val F q Giv o d0:=
 ⟨h.size,λk e=>let ⟨g,x,f⟩:=h.wk k e;⟨g,x,f.rely (RWo.at w d)⟩,h.old,h.tn,h.oldk,h.norel,h.deaf0,h.deafW,h.rel,λk e f=>⟨(h.has k e f).1,p _ _ _ w (w.at d) (λ_ _=>rfl) (h.has k e f).2⟩,h.pay,h.low,h.geo.step (XA _)⟩
def JZ{u:Trace}(h:∀op∈t,op.act.low w.heap.size)(p:w.heap.size<=w'.heap.size)(f:∀op∈u,op.act.low w'.heap.size):∀op∈t++u,op.act.low w'.heap.size:=
 λop e=>(UX.1 e).elim (λx=>MemAct.low_mono p (h op x)) (f op)
def en{l:Loc}(h:∀op∈t,op.act.low w.heap.size)(y:¬l.low w.heap.size):∀i a,touchAt t i=I a->a.loc≠l:=by
 intro i a A e;obtain⟨op,x,f⟩:=touch_of A;have p:=h op (Array.mem_of_getElem? x);subst e;apply y;cases hx:op.act with
 |access e=>
  rw[hx]at f p;simp only[MemAct.touch?,XM]at f;subst f;exact p
 |mark m=>
  rw[hx]at f p;cases m<;>simp only[MemAct.touch?,XM]at f<;>first|cases f;done|subst f;exact p
 |_=>rw[hx]at f;cases f
def ComN.stepW(hR:ResOk Res)(h:ComN P ty Wg C n Sb Res N0 j gs w t D O Rk val F q Giv o d0)(hN:0<N0){k:Nat}(hk:k<j){g H:NR}{fn:NS}{pos:String}{es:Array Event}{s' A:Nat}{r':Tr}{Ok:Nat->Prop}{E:NM}
 (Y:RMo ty Wg C n o w w')(Fu:∀k',k'<j->k'≠k->RWo ty Wg C n k' (Rk k') (O k') w w')
 (K:∀b,O k b->Ok b)(M:∀b,Ok b->O k b\/(w.heap.size<=b/\b<w'.heap.size))
 (L:WS P ty Wg C n Sb Res k (Rk k) E s' Ok r' A H w')
 (C9:∀op∈MemOp.ofEvents (N0+k) fn pos es,LM N0 (ShN Wg) (WG C (upd O k Ok)) (RdL Sb Rk) k op)(Cr:∀op∈MemOp.ofEvents (N0+k) fn pos es,op.act.low w'.heap.size)(Gf:∀e∈es,e.loc≠.mark (.release (stA Wg)))
 (Kx:deafBehind (D k).deaf es=A)(hrel:s'<=6->∃r,RelN (ShN Wg) (stA Wg) (t++MemOp.ofEvents (N0+k) fn pos es) (N0+k) r)
 (Ky:s'<=6->Has C k E w'/\Res k Ok E w'):
 ComN P ty Wg C n Sb Res N0 j ((gs.map (woken P g H w')).setIfInBounds (N0+k) H) w' (t++MemOp.ofEvents (N0+k) fn pos es) (upd D k ⟨s',0,A⟩) (upd O k Ok) Rk (upd val k E) (upd F (N0+k) r') q Giv o d0:=by
 have Gq:=h.geo.growW Y.size M;have T:TN N0 (ShN Wg) (Zu Sb) (WG C (upd O k Ok)) (RdL Sb Rk) t j:=by
  refine h.tn.grow (λk' l f hl=> ?_) (λk' l f hl=> ?_)
  .by_cases e:k'=k
   .subst e;rcases hl with hl|hl
    .left;rw[VK];exact bK hl K
    .exact .inr hl
   .unfold WG;rw[upd_ne O _ e];exact hl
  .by_cases e:k'=k
   .subst e;rcases hl with hl|hl
    .rw[VK]at hl;by_cases He:LB (O k') l
     .exact .inl (.inl He)
     .refine .inr (en h.low λRv=> ?_);rcases hl with⟨a,rfl,y⟩|⟨r,rfl,y⟩
      .rcases M _ y with y|⟨h3,_⟩
       .exact He (.inl ⟨a,rfl,y⟩)
       .have:a.block<w.heap.size:=Rv;omega
      .rcases M _ y with y|⟨h3,_⟩
       .exact He (.inr ⟨r,rfl,y⟩)
       .have:r<w.heap.size:=Rv;omega
    .exact .inl (.inr hl)
   .unfold WG at hl;rw[upd_ne O _ e]at hl;exact .inl hl
 refine⟨by simp[h.size],λk' f=> ?_,λi D8 hi=> ?_,T.appW Gq.apart hk C9,h.oldk.app (λop V=> .inr (.inl (by rw[(C9 op V).1];omega))),h.norel.app (norel_of Gf),by rw[SS t OA _ g_of_ofEvents,h.deaf0],λk' f=> ?_,λk' f p=> ?_,λk' f p=> ?_,Y.pay h.pay,JZ h.low Y.size Cr,Gq⟩
 .by_cases e:k'=k
  .subst e;exact⟨H,get_map_set_same _ _ _ (by rw[h.size];omega),by rw[VK,VK,VK,VK];exact L⟩
  .obtain⟨x,hx,Fe⟩:=h.wk k' f;refine⟨x,by rw[QG _ _ _ _ OA,hx,XN,Fe.woken],?_⟩;rw[upd_ne D _ e,upd_ne O _ e,upd_ne val _ e,upd_ne F _ OA];exact Fe.rely (Fu k' f e)
 .obtain⟨x,hx,hq,hF⟩:=h.old i D8 hi;refine⟨x,by rw[QG _ _ _ _ OA,hx,XN,woken_quitsD hq],?_,by rw[upd_ne F _ OA];exact hF⟩;rw[SS t OA _ g_of_ofEvents];exact hq
 .by_cases e:k'=k
  .subst e;rw[Deaf_own,h.deafW k' f,VK];exact Kx
  .rw[SS t OA _ g_of_ofEvents,h.deafW k' f,upd_ne D _ e]
 .by_cases e:k'=k
  .subst e;rw[VK]at p;exact hrel p
  .rw[upd_ne D _ e]at p;obtain⟨r,hr⟩:=h.rel k' f p;exact⟨r,hr.app (hr.by_.appOther g_of_ofEvents OA) (λop V _=>by have:=g_of_ofEvents op V;omega)⟩
 .by_cases e:k'=k
  .subst e;rw[VK]at p;rw[VK,VK];exact Ky p
  .rw[upd_ne D _ e]at p;rw[upd_ne val _ e,upd_ne O _ e];exact⟨(Fu k' f e).cell.trans (h.has k' f p).1,hR _ _ _ _ _ (Fu k' f e).own (h.has k' f p).2⟩
def ComN.step0(M:ResOk Res)(h:ComN P ty Wg C n Sb Res N0 j gs w t D O Rk val F q Giv o d0)(Y:0<N0){a E:NR}{fn:NS}{pos:String}{es:Array Event}(A:w.heap.size<=w'.heap.size)
 (y:∀k,k<j->RWo ty Wg C n k (Rk k) (O k) w w')(H:∀op∈MemOp.ofEvents 0 fn pos es,Jw (ShN Wg) (Zu Sb) (WG C O) (RdL Sb Rk) j op)(V:∀op∈MemOp.ofEvents 0 fn pos es,op.act.low w'.heap.size)(L:∀e∈es,e.loc≠.mark (.release (stA Wg)))(T:PayAt C n w'):
 ComN P ty Wg C n Sb Res N0 j ((gs.map (woken P a E w')).setIfInBounds 0 E) w' (t++MemOp.ofEvents 0 fn pos es) D O Rk val F q Giv (grow o w w') (deafBehind d0 es):=by
 refine⟨by simp[h.size],λk e=> ?_,λi K hi=> ?_,h.tn.app0 Y h.geo.apart H,h.oldk.app (λop p=> .inl (H op p).1),h.norel.app (norel_of L),by rw[Deaf_own,h.deaf0],λk e=>by rw[SS t OA _ g_of_ofEvents,h.deafW k e],λk e f=> ?_,λk e f=>⟨(y k e).cell.trans (h.has k e f).1,M _ _ _ _ _ (y k e).own (h.has k e f).2⟩,T,JZ h.low A V,h.geo.grow0 A⟩
 .obtain⟨x,hx,Fe⟩:=h.wk k e;exact⟨x,by rw[QG _ _ _ _ OA,hx,XN,Fe.woken],Fe.rely (y k e)⟩
 .obtain⟨x,hx,hq,hF⟩:=h.old i K hi;refine⟨x,by rw[QG _ _ _ _ OA,hx,XN,woken_quitsD hq],?_,hF⟩;rw[SS t OA _ g_of_ofEvents];exact hq
 .obtain⟨r,hr⟩:=h.rel k e f;exact⟨r,hr.app (hr.by_.appOther g_of_ofEvents OA) (λop p _=>by have:=g_of_ofEvents op p;omega)⟩
def ComN.stepL(h:ComN P ty Wg C n Sb Res N0 j gs w t D O Rk val F q Giv o d0){i m:Nat}(D8:0<i)(hi:i<N0){g y:NR}{fn:NS}{pos:String}{es:Array Event}(L:∀e∈es,e.mute=NC)(E:QuitsD P m (deafBehind (Deaf t i) es) y)(T:∀e∈es,e.loc≠.mark (.release (stA Wg))):
 ComN P ty Wg C n Sb Res N0 j ((gs.map (woken P g y w)).setIfInBounds i y) w (t++MemOp.ofEvents i fn pos es) D O Rk val (upd F i (Tr.ofNat m)) (upd q i m) Giv o d0:=by
 have K:∀op∈MemOp.ofEvents i fn pos es,op.g=i:=g_of_ofEvents;have H:∀op∈MemOp.ofEvents i fn pos es,op.act.touch? =Z:=λop f=>by obtain⟨e,p,rfl⟩:=XR f;exact touch_mute (L e p)
 have V:∀op∈MemOp.ofEvents i fn pos es,op.act.low w.heap.size:=λop f=>by obtain⟨e,p,rfl⟩:=XR f;exact low_mute (L e p) _
 refine⟨by simp[h.size],λk p=> ?_,λM Y A=> ?_,h.tn.appMute OA K H,h.oldk.app (λop f=> .inr (.inr (H op f))),h.norel.app (norel_of T),by rw[SS t OA _ g_of_ofEvents,h.deaf0],λk p=>by rw[SS t OA _ g_of_ofEvents,h.deafW k p],λk p H=> ?_,h.has,h.pay,JZ h.low (XA _) V,h.geo⟩
 .obtain⟨x,hx,Fe⟩:=h.wk k p;exact⟨x,by rw[QG _ _ _ _ OA,hx,XN,Fe.woken],by rw[upd_ne F _ OA];exact Fe⟩
 .by_cases e:M=i
  .subst e;exact⟨y,get_map_set_same _ _ _ (by rw[h.size];omega),by rw[Deaf_own,VK];exact E,by rw[VK,VK]⟩
  .obtain⟨x,hx,hq,hF⟩:=h.old M Y A;refine⟨x,by rw[QG _ _ _ _ OA,hx,XN,woken_quitsD hq],?_,by rw[upd_ne F _ e,upd_ne q _ e];exact hF⟩;rw[SS t OA _ g_of_ofEvents,upd_ne q _ e];exact hq
 .obtain⟨r,hr⟩:=h.rel k p H;exact⟨r,hr.app (hr.by_.appOther g_of_ofEvents OA) (λop f K=>by have:=g_of_ofEvents op f;omega)⟩
def ComN.spawn(h:ComN P ty Wg C n Sb Res N0 j gs w t D O Rk val F q Giv o 0)(hN:0<N0){a' A:NR}{x y:MemOp}{r:Tr}(V:x.g=0/\x.act= .go (N0+j))(T:y.g=N0+j/\y.act= .start)
 (hc:GoT P ND (RWo ty Wg C n j o) (DWo Wg C n Sb j o) (SW P ty Wg C n Res j) r (λ_=>False) A w):
 ComN P ty Wg C n Sb Res N0 (j+1) ((gs.setIfInBounds 0 a').push A) w (t++ #[x,y]) (upd D j ⟨7,0,0⟩) (upd O j (λ_=>False)) (upd Rk j o) val (upd F (N0+j) r) q o o 0:=by
 have L:∀op∈#[x,y],op=x\/op=y:=by intro op H;simpa using H
 have Al:∀op∈#[x,y],op.act≠.mark .disable/\op.act≠.mark .enable:=by
  intro op H;rcases L op H with rfl|rfl
  .rw[V.2];exact⟨OD,OD⟩
  .rw[T.2];exact⟨OD,OD⟩
 have Gq:GeoN Wg C Sb w (j+1) (upd O j (λ_=>False)) (upd Rk j o) o o:=by
  refine⟨λk E b p=> ?_,λk k' E _ Ab b p=> ?_,h.geo.mo,λk E b p=> ?_,λb p=>p,h.geo.sb,h.geo.hWg,h.geo.hC,h.geo.hCW⟩
  .by_cases e:k=j
   .subst e;rw[VK]at p;exact p.elim
   .rw[upd_ne O _ e]at p;exact h.geo.sep k OA b p
  .by_cases e:k=j
   .subst e;rw[VK]at p;exact p.elim
   .rw[upd_ne O _ e]at p;by_cases e':k'=j
    .subst e';rw[VK];exact id
    .rw[upd_ne O _ e'];exact h.geo.sep2 k k' OA OA Ab b p
  .by_cases e:k=j
   .subst e;rw[VK]at p;exact p
   .rw[upd_ne Rk _ e]at p;exact h.geo.giv b (h.geo.rdo k OA b p)
 have a0:TN N0 (ShN Wg) (Zu Sb) (WG C (upd O j (λ_=>False))) (RdL Sb (upd Rk j o)) t j:=by
  refine⟨h.tn.quiet,λk E l f=> ?_,λk E l f=> ?_,λl L K hn f=> ?_,λl L K hn f=> ?_,h.tn.nr,h.tn.gs⟩
  .unfold WG at f;rw[upd_ne O _ OA]at f;exact h.tn.own k E l f
  .unfold RdL at f;rw[upd_ne Rk _ OA]at f;exact h.tn.rd k E l f
  .refine h.tn.free l L K hn λk E=> ?_
   have:=f k E;unfold WG RdL at this;rw[upd_ne O _ OA,upd_ne Rk _ OA]at this;exact this
  .refine h.tn.mine l L K hn λk E=> ?_
   have:=f k E;unfold WG at this;rw[upd_ne O _ OA]at this;exact this
 refine⟨by simp[h.size];omega,λk E=> ?_,λi D8 hi=> ?_,a0.fork hN Gq.apart (λl f=> ?_) (λl f=>ab f.1) V T h.deaf0,h.oldk.app (λop H=> ?_),h.norel.app λop H=> ?_,by rw[Deaf_still t 0 _ Al,h.deaf0],λk E=> ?_,λk E K=> ?_,λk E K=> ?_,h.pay,JZ h.low (XA _) (λop H=> ?_),Gq⟩
 .rcases VC k j with M|Ha
  .obtain⟨g,Y,Mo⟩:=h.wk k M;refine⟨g,?_,by rw[upd_ne D _ OA,upd_ne O _ OA,upd_ne Rk _ OA,upd_ne F _ OA];exact Mo⟩;rw[Array.getElem?_push_lt (by simp[h.size];omega),<-YN,YO OA];exact Y
  .obtain rfl:k=j:=OA
   refine⟨A,?_,by rw[VK,VK,VK,VK];exact .work hc⟩;rw[show N0+k=(gs.setIfInBounds 0 a').size by simp[h.size],Array.getElem?_push_size]
 .obtain⟨g,Y,hq,hF⟩:=h.old i D8 hi;refine⟨g,?_,by rw[Deaf_still t _ _ Al];exact hq,by rw[upd_ne F _ OA];exact hF⟩;rw[Array.getElem?_push_lt (by simp[h.size];omega),<-YN,YO OA];exact Y
 .rcases f with f|rfl
  .exact ab f
  .rfl
 .rcases L op H with rfl|rfl
  .exact .inl V.1
  .exact .inr (.inl (by rw[T.1];omega))
 .rcases L op H with rfl|rfl
  .rw[V.2];simp
  .rw[T.2];simp
 .rw[Deaf_still t _ _ Al];rcases VC k j with M|Ha
  .rw[h.deafW k M,upd_ne D _ OA]
  .obtain rfl:k=j:=OA
   rw[VK];exact Deaf_absent λa op ha e=>by have:=h.tn.gs a op ha;omega
 .rcases VC k j with M|Ha
  .rw[upd_ne D _ OA]at K;obtain⟨r,hr⟩:=h.rel k M K;refine⟨r,hr.app (Go.ConcN.RelBy.appNot hr.by_ λop H=> ?_) (λop H Y=> ?_)⟩
   .rcases L op H with rfl|rfl
    .rw[V.1];omega
    .rw[T.1];omega
   .rcases L op H with rfl|rfl
    .rw[V.1]at Y;omega
    .rw[T.1]at Y;omega
  .obtain rfl:k=j:=OA
   rw[VK]at K;simp at K
 .rcases VC k j with M|Ha
  .rw[upd_ne D _ OA]at K;rw[upd_ne O _ OA];exact h.has k M K
  .obtain rfl:k=j:=OA
   rw[VK]at K;simp at K
 .rcases L op H with rfl|rfl
  .rw[V.2];trivial
  .rw[T.2];trivial
end
end
section
open Go.ConcN (ShN WgLive PayAt Has CTag RW upd upd_same upd_ne WD RelBy get_map_set get_map_set_same norel_of Vc Ssum cnt phi phi_mono phi_retag isOpen isW3 isFin OpenSt AllQuit pend sumTo sumTo_upd Vc_upd Vc_le others_uncounted le_sumTo bk_cell deafBehind_idle)
open Go.ConcR (KK WgAt stA smA rd wr mk Payload DC0 g_of_ofEvents Bk ofEvent_loc_mark ofEvent_cell)
variable [Payload]
abbrev Mu:=(Nat×Nat×(Nat->Tr))×(Tr×Nat)
def MC(a b:Tr×Nat):Prop:=Tx a.1 b.1\/(a.1=b.1/\a.2<b.2)
def tnLt_wf:WellFounded MC:=by
 constructor;have e:∀(r:Tr)(k:Nat),Acc MC (r,k):=by
  intro r
  induction trLt_wf.apply r with
  |intro r _ A=>
   intro k
   induction k using Nat.strongRecOn with
   |_ k f=>
    refine⟨_,?_⟩;rintro⟨y,k'⟩ (h|⟨x,p⟩)
    .exact A y h k'
    .simp only at x p;subst x;exact f k' p
 exact fun⟨r,k⟩=>e r k
def GR(a b:Mu):Prop:=Km a.1 b.1\/(a.1=b.1/\MC a.2 b.2)
def muLt2_wf:WellFounded GR:=by
 constructor;have f:∀(x:Nat×Nat×(Nat->Tr))(y:Tr×Nat),Acc GR (x,y):=by
  intro x
  induction muLt_wf.apply x with
  |intro x _ H=>
   intro y
   induction tnLt_wf.apply y with
   |intro y _ e=>
    refine⟨_,?_⟩;rintro⟨K,E⟩ (h|⟨A,p⟩)
    .exact H K h E
    .simp only at A p;subst A;exact e E p
 exact fun⟨x,y⟩=>f x y
def AcqN(Wg N0 j:Nat)(t:Trace):Prop:=
 ∃q,t.act? q=I (.mark (.acquire (stA Wg)))/\t.g? q=I 0/\t.heard q/\∀k,k<j->∃r,RelN (ShN Wg) (stA Wg) t (N0+k) r/\r<q
omit [Payload]in
def AcqN.app{Wg N0:Nat}{t u:Trace}(h:AcqN Wg N0 j t)(y:∀k r,k<j->RelN (ShN Wg) (stA Wg) t (N0+k) r->RelN (ShN Wg) (stA Wg) (t++u) (N0+k) r):AcqN Wg N0 j (t++u):=by
 obtain⟨q,f,p,A,x⟩:=h;have e:=lt_of_act? f;exact⟨q,by rw[act?_old e];exact f,by rw[g?_old e];exact p,(heard_old e).2 A,λk e=>let ⟨r,p,f⟩:=x k e;⟨r,y k r e p,f⟩⟩
structure BaseN(w0:NL)(G0:Nat->Prop)(w:NL)(Giv:Nat->Prop):Prop where
 old:∀b,G0 b->Giv b/\w.heap[b]? =w0.heap[b]?
 tape:w.tape=w0.tape
 os:w.os=w0.os
 output:w.output=w0.output
 size:w0.heap.size<=w.heap.size
section
variable (P:NO)(ty:NT)(Wg C n:Nat)(Sb:Nat->Prop)(Res:Nat->(Nat->Prop)->NM->NL->Prop)(End AnchW:(Nat->Prop)->NR->NL->Prop)(N0:Nat)(w0:NL)(G0:Nat->Prop)
def InvN(μ:Mu)(m:Machine)(t:Trace):Prop:=
 ∃(gs:Array NR)(w:NL)(p:Option (Nat×Nat))(j:Nat)(D:Nat->WD)(O Rk:Nat->Nat->Prop)(val:Nat->NM)(F:Nat->Tr)(q:Nat->Nat)(e:CTag)(Giv o:Nat->Prop)(h:Tr×Nat)(d0:Nat)(a:NR)(f sm:Int),
  m=crowd gs w p/\gs[0]? =I a/\CS P ty Wg C n Sb Res End AnchW e j Giv o h d0 a w/\ComN P ty Wg C n Sb Res N0 j gs w t D O Rk val F q Giv o d0/\WgAt ty Wg w f sm/\Go.ConcN.Mode j D e f sm/\
  (e= .ret->AcqN Wg N0 j t)/\BaseN w0 G0 w Giv/\μ=((phi n (Vc j D) e+Ssum j D,N0+j,F),h)
def Ul(μ:Mu)(s:Stepped×Array MemOp)(t:Trace):Prop:=
 ∃e ops μ',s=(.next e,ops)/\GR μ' μ/\InvN P ty Wg C n Sb Res End AnchW N0 w0 G0 μ' e (t++ops)
end
section
variable {P:NO}{ty:NT}{Wg C n:Nat}{Sb:Nat->Prop}{Res:Nat->(Nat->Prop)->NM->NL->Prop}{End AnchW:(Nat->Prop)->NR->NL->Prop}{N0:Nat}{w0:NL}{G0:Nat->Prop}
 {gs:Array NR} {w w':NL} {sl:Option (Nat×Nat)} {j:Nat} {D:Nat->WD} {O Rk:Nat->Nat->Prop} {val:Nat->NM} {F:Nat->Tr} {q:Nat->Nat} {tag:CTag} {Giv o:Nat->Prop} {f0:Tr×Nat} {d0:Nat} {a:NR} {t:Trace} {st sm:Int}
omit [Payload]in
def BaseN.step(h:BaseN w0 G0 w Giv)(E:∀b,Giv b->w'.heap[b]? =w.heap[b]?)(y:w'.tape=w.tape)(p:w'.os=w.os)(x:w'.output=w.output)(A:w.heap.size<=w'.heap.size){e:Nat->Prop}(H:∀b,Giv b->e b):BaseN w0 G0 w' e:=
 ⟨λb f=>⟨H b (h.old b f).1,(E b (h.old b f).1).trans (h.old b f).2⟩,y.trans h.tape,p.trans h.os,x.trans h.output,XC h.size A⟩
def ET(h:WgLive ty Wg w)(e:w'.heap[Wg]? =w.heap[Wg]?):WgLive ty Wg w':=let ⟨_,_,x⟩:=h;⟨_,_,x.of_block e⟩
omit [Payload]in
def EU{b:Nat}(e:w'.heap[b]? =w.heap[b]?)(i:Nat):w'.cell? ⟨b,i,Z⟩=w.cell? ⟨b,i,Z⟩:=by simp[World.cell?,e]
def LW(h:PayAt C n w)(e:w'.heap[C]? =w.heap[C]?):PayAt C n w':=let ⟨cs,f,p⟩:=h;⟨cs,e.trans f,p⟩
def RWo.of_wg{k:Nat}(e:GeoN Wg C Sb w j O Rk Giv o)(p:k<j)(h:Aside Wg w w')(x:WgLive ty Wg w'):RWo ty Wg C n k (Rk k) (O k) w w':=
 ⟨λb f=>h.block b (e.sep k p b f).2.1,λb f=>h.block b (e.mo b (e.giv b (e.rdo k p b f))).2.1,SH h.size.symm,λ_=>x,λf=>LW f (h.block C e.hCW),EU (h.block C e.hCW) k⟩
def RMo.of_wg(e:GeoN Wg C Sb w j O Rk Giv o)(h:Aside Wg w w')(p:WgLive ty Wg w'):RMo ty Wg C n o w w':=
 ⟨λb f=>h.block b (e.mo b f).2.1,SH h.size.symm,λ_=>p,λf=>LW f (h.block C e.hCW),h.tape,h.os,h.output⟩
def RWo.of_work{k k':Nat}(e:GeoN Wg C Sb w j O Rk Giv o)(y:k<j)(f:k'<j)(E:k'≠k)(h:DWo Wg C n Sb k (Rk k) (O k) w w' es):RWo ty Wg C n k' (Rk k') (O k') w w':=
 ⟨λb x=>h.stay b (e.sep k' f b x).1 (λp=>e.sep2 k' k f y E b x p) (e.sep k' f b x).2.2.1,
  λb x=>let A:=e.giv b (e.rdo k' f b x);h.stay b (e.mo b A).1 (λp=>(e.sep k y b p).2.2.2 A) (e.mo b A).2.2,
  h.size,λx=>ET x (h.stay Wg e.hWg (λp=>(e.sep k y _ p).2.1 rfl) (SJ e.hCW)),h.pay,h.cells k' E⟩
def RMo.of_work{k:Nat}(e:GeoN Wg C Sb w j O Rk Giv o)(x:k<j)(h:DWo Wg C n Sb k (Rk k) (O k) w w' es):RMo ty Wg C n o w w':=
 ⟨λb p=>h.stay b (e.mo b p).1 (λf=>(e.sep k x b f).2.2.2 p) (e.mo b p).2.2,
  h.size,λp=>ET p (h.stay Wg e.hWg (λf=>(e.sep k x _ f).2.1 rfl) (SJ e.hCW)),h.pay,h.tape,h.os,h.output⟩
def RWo.of_main{k:Nat}(e:GeoN Wg C Sb w j O Rk Giv o)(p:k<j)(h:DMo Wg Sb Giv o w w' es):RWo ty Wg C n k (Rk k) (O k) w w':=
 ⟨λb f=>h.stay b (e.sep k p b f).1 (.inl (e.sep k p b f).2.2.2),λb f=>h.stay b (e.mo b (e.giv b (e.rdo k p b f))).1 (.inr (e.rdo k p b f)),h.size,
  λf=>ET f (h.stay Wg e.hWg (.inl λf=>(e.mo _ f).2.1 rfl)),λx=>LW x (h.stay C e.hC (.inl λf=>(e.mo _ f).2.2 rfl)),EU (h.stay C e.hC (.inl λf=>(e.mo _ f).2.2 rfl)) k⟩
def ku{k:Nat}(h:∀e∈es,EvWo Wg C Sb k (Rk k) Ok e):∀op∈MemOp.ofEvents (N0+k) fn pos es,LM N0 (ShN Wg) (WG C (upd O k Ok)) (RdL Sb Rk) k op:=by
 intro op f;obtain⟨e,p,rfl⟩:=XR f;refine⟨rfl,λx E=> ?_⟩;rcases(h e p).1 x E with h1|h1|h1|⟨h1,y,A⟩
 .exact .inl h1
 .exact .inr (.inl (.inl (by rw[VK];exact h1)))
 .exact .inr (.inl (.inr h1))
 .exact .inr (.inr ⟨⟨h1,y⟩,A⟩)
def iU{k:Nat}{E:Nat->Nat->Prop}(h:∀e∈es,Bk Wg e):∀op∈MemOp.ofEvents (N0+k) fn pos es,LM N0 (ShN Wg) (WG C E) (RdL Sb Rk) k op:=by
 intro op p;obtain⟨e,y,rfl⟩:=XR p;refine⟨rfl,λx f=> ?_⟩;rcases h e y with h1|h1|⟨a,wr,rfl,A⟩
 .simp only[ofEvent_loc_mark h1]at f;cases f
 .simp only[ofEvent_loc_mark h1]at f;cases f
 .simp only[ofEvent_cell,MemAct.touch?,XM]at f;subst f;exact .inl ⟨⟨a,rfl,A⟩,OD,OD⟩
def bU(x:Wg<B)(h:∀e∈es,Bk Wg e):∀op∈MemOp.ofEvents g fn pos es,op.act.low B:=by
 intro op f;obtain⟨e,p,rfl⟩:=XR f;rcases h e p with h1|h1|⟨a,wr,rfl,_⟩
 .rw[ofEvent_loc_mark h1];trivial
 .rw[ofEvent_loc_mark h1];trivial
 .rw[ofEvent_cell];show a.block<B;omega
def AS(h:∀e∈es,Bk Wg e):∀op∈MemOp.ofEvents g fn pos es,∀x,op.act.touch? =I x->ShN Wg x.loc/\x.kind= .atomic:=by
 intro op p x f;obtain⟨e,y,rfl⟩:=XR p;rcases h e y with h1|h1|⟨a,wr,rfl,A⟩
 .simp only[ofEvent_loc_mark h1]at f;cases f
 .simp only[ofEvent_loc_mark h1]at f;cases f
 .simp only[ofEvent_cell,MemAct.touch?,XM]at f;subst f;exact⟨⟨a,rfl,A⟩,rfl⟩
def FY(hR:ResOk Res)(hN:0<N0)(F1:∀o g w,AnchW o g w->g.status= .running)(Bp:∀o g w,End o g w->g.status= .running)
 (ha:gs[0]? =I a)(An:CS P ty Wg C n Sb Res End AnchW tag j Giv o f0 d0 a w)(V:ComN P ty Wg C n Sb Res N0 j gs w t D O Rk val F q Giv o d0)(A7:BaseN w0 G0 w Giv)
 {k:Nat}(M:k<j){g E:NR}{es:Array Event}{s' f:Nat}{r':Tr}{Ok:Nat->Prop}{v':NM}{A x:Int}(hg:gs[N0+k]? =I g)(Ax:stepG P ND g w= .go E w' es)
 (y:RMo ty Wg C n o w w')(Fu:∀k',k'<j->k'≠k->RWo ty Wg C n k' (Rk k') (O k') w w')
 (H:∀b,O k b->Ok b)(Nm:∀b,Ok b->O k b\/(w.heap.size<=b/\b<w'.heap.size))
 (K:WS P ty Wg C n Sb Res k (Rk k) v' s' Ok r' f E w')
 (C9:∀op∈MemOp.ofEvents (N0+k) g.frame.fn g.frame.place es,LM N0 (ShN Wg) (WG C (upd O k Ok)) (RdL Sb Rk) k op)(Cr:∀op∈MemOp.ofEvents (N0+k) g.frame.fn g.frame.place es,op.act.low w'.heap.size)(Gf:∀e∈es,e.loc≠.mark (.release (stA Wg)))
 (Kx:deafBehind (D k).deaf es=f)(hrel:s'<=6->∃r,RelN (ShN Wg) (stA Wg) (t++MemOp.ofEvents (N0+k) g.frame.fn g.frame.place es) (N0+k) r)
 (Ky:s'<=6->Has C k v' w'/\Res k Ok v' w')(B9:WgAt ty Wg w' A x)
 (A8:∀p,(p=tag\/(tag= .blk/\p= .w3))->(mayWake P g=NC->E.status= .running->p≠.blk)->Go.ConcN.Mode j (upd D k ⟨s',0,f⟩) p A x)
 (Ct:tag= .ret->AcqN Wg N0 j (t++MemOp.ofEvents (N0+k) g.frame.fn g.frame.place es))
 (A5:(s'<(D k).stage/\cnt ⟨s',0,f⟩<=cnt (D k))\/(s'=(D k).stage/\Tx r' (F (N0+k)))):
 Ul P ty Wg C n Sb Res End AnchW N0 w0 G0 ((phi n (Vc j D) tag+Ssum j D,N0+j,F),f0) (runT P (crowd gs w sl) (N0+k)) t:=by
 obtain⟨p,f',Ee,L,Xl⟩:=An.wokenBy F1 Bp y g E;have D8:(N0+k==0)=ND:=by simp;omega
 have Aj:=RY (P:=P) (sl:=sl) (i:=N0+k) hg (by rw[D8];exact Ax);have e1:=sumTo_upd D (⟨s',0,f⟩:WD) cnt M;have e2:=sumTo_upd D (⟨s',0,f⟩:WD) WD.stage M
 refine⟨_,_,((phi n (Vc j (upd D k ⟨s',0,f⟩)) p+Ssum j (upd D k ⟨s',0,f⟩),N0+j,upd F (N0+k) r'),f'),Aj,?_,
  _,w',sl,j,upd D k ⟨s',0,f⟩,upd O k Ok,Rk,upd val k v',upd F (N0+k) r',q,p,Giv,o,f',d0,woken P g E w' a,A,x,rfl,by rw[QG _ _ _ _ OA,ha];rfl,Ee,
  V.stepW hR hN M y Fu H Nm K C9 Cr Gf Kx hrel Ky,B9,A8 p L Xl,?_,A7.step (λb hb=>y.own b (V.geo.giv b hb)) y.tape y.os y.output y.size (λ_ h=>h),rfl⟩
 .rw[phi_retag n _ L];refine .inl ?_;simp only[Vc,Ssum]at*;rcases A5 with⟨h1,Y⟩|⟨h1,Y⟩
  .refine .inl ?_;have:=phi_mono n (v':=sumTo j λa=>cnt (upd D k ⟨s',0,f⟩ a)) (v:=sumTo j λa=>cnt (D a)) OA tag;show phi n (sumTo j λa=>cnt (upd D k ⟨s',0,f⟩ a)) tag+_<_;omega
  .have ec:cnt (⟨s',0,f⟩:WD)=cnt (D k):=by simp only[cnt,h1]
   have ev:(sumTo j λa=>cnt (upd D k ⟨s',0,f⟩ a))=sumTo j λa=>cnt (D a):=OA
   have T:(sumTo j λa=>(upd D k ⟨s',0,f⟩ a).stage)=sumTo j λa=>(D a).stage:=OA
   rw[ev,T];refine .inr ⟨rfl,rfl,N0+k,by show N0+k<N0+j;omega,?_,λi hi Ab=> ?_⟩
   .show Tx (upd F (N0+k) r' (N0+k)) (F (N0+k));rw[VK];exact Y
   .show upd F (N0+k) r' i=F i;exact upd_ne F _ Ab
 .intro e;rcases L with rfl|⟨_,rfl⟩
  .exact Ct e
  .cases e
def ox(hR:ResOk Res)(hN:0<N0)(F1:∀o g w,AnchW o g w->g.status= .running)(Bp:∀o g w,End o g w->g.status= .running)
 (ha:gs[0]? =I a)(An:CS P ty Wg C n Sb Res End AnchW tag j Giv o f0 d0 a w)(K:ComN P ty Wg C n Sb Res N0 j gs w t D O Rk val F q Giv o d0)(A7:BaseN w0 G0 w Giv)(B9:WgAt ty Wg w st sm)(A8:Go.ConcN.Mode j D tag st sm)(Ct:tag= .ret->AcqN Wg N0 j t)
 {i:Nat}(L:0<i)(hi:i<N0){g:NR}(E:gs[i]? =I g)(y:g.status= .running):
 Ul P ty Wg C n Sb Res End AnchW N0 w0 G0 ((phi n (Vc j D) tag+Ssum j D,N0+j,F),f0) (runT P (crowd gs w sl) i) t:=by
 obtain⟨x,hx,h,T⟩:=K.old i L hi;rw[E]at hx;cases hx;cases Id:q i with
 |zero=>rw[Id]at h;rw[h.1]at y;cases y
 |succ m=>
  rw[Id]at h T;rcases h with⟨hf,_⟩|⟨_,M,es,hm,Pv,H⟩
  .rw[hf]at y;cases y
  have Hu:(i==0)=ND:=by simp;omega
  have p:=RY (P:=P) (sl:=sl) (i:=i) E (by rw[Hu];exact Pv w);have Gf:∀e∈es,e.loc≠.mark (.release (stA Wg)):=λe he V=>by have:=hm e he;obtain⟨_,wr,_⟩:=e;simp only at V;subst V;simp[Event.mute]at this
  obtain⟨f,Y,Ee,A,_⟩:=An.wokenBy F1 Bp (.refl o w) g M
  refine⟨_,_,((phi n (Vc j D) f+Ssum j D,N0+j,upd F i (Tr.ofNat m)),Y),p,?_,_,w,sl,j,D,O,Rk,val,upd F i (Tr.ofNat m),upd q i m,f,Giv,o,Y,d0,woken P g M w a,st,sm,rfl,by rw[QG _ _ _ _ OA,ha];rfl,Ee,
   K.stepL L hi hm H Gf,B9,Go.ConcN.Mode.retag A8 A,?_,A7,rfl⟩
  .rw[phi_retag n _ A];refine .inl (.inr ⟨rfl,rfl,i,by show i<N0+j;omega,?_,λk hk Ab=> ?_⟩)
   .show Tx (upd F i (Tr.ofNat m) i) (F i);rw[VK,T];exact⟨_,w,rfl,rfl⟩
   .exact upd_ne F _ Ab
  .intro e;rcases A with rfl|⟨_,rfl⟩
   .exact(Ct e).app λk r hk p=>p.app (p.by_.appOther g_of_ofEvents OA) (λop A4 E=>by have:=g_of_ofEvents op A4;omega)
   .cases e
end
end
end Go.Nk
