/- nocklaw01.ArrowTexts: for every text, every stock and every card the call returns true, on every schedule and without a data race; its arguments read afterwards as they read before; nothing that was in memory is changed; at the return no other goroutine does more than leave. The card ties the eleven listed package variables to the program's text. Conditions: none beyond the card's own (the listed variables hold what the program's text lays). The texts of this claim were shortened by program (no remarks, short names) to fit the bounds on a claim's size; their long form lies in the repository's folder wip. -/
import Derived.Test.YthahddndgbpooaaGreatDoorNk12
import Derived.Test.YthahddndgbpooaaGreatDoorNk25
set_option linter.all false
set_option maxRecDepth 100000
set_option maxHeartbeats 8000000
open Go
open Option renaming some->I,none->NB
open Go.IntKind renaming i64->J
open Bool renaming true->U,false->ND
open Go.Obj renaming cells->Z
open Go.Proofs.Tryz renaming prog->NX
open Go.Proofs.Tryp renaming prog->NY
open Go renaming World->NL,Value->NM,Calls->NW,Addr->NP,execOp->NU
variable {a:Act}{C T:Array NM}{c c':Code}{x0 x1 x2 y0 y1 y2:Int}{b b0 k:Nat}{P:Program}{p q t v:NM}{W w:NL}
namespace Go.Proofs.Tryq
section
open Go Go.Nk Go.RowKit
def u68:prog.underlying 29=I (.slice 75):=(underlying_eq 29).trans Tryz.underlying29
def i80:prog.info? 75=I Tryz.t75:=OB
def t80z:Tryz.t75.zero=I (.agg #[.int J 0,.int J 0,.int J 0,.int J 0,.int J 0]):=OB
def t80s:Tryz.t75.size=5:=OB
def t80b:Tryz.t75.bytes=40:=OB
def pm{A:List Ap}(h:w.heap[b]? =I (Z C 81))(m:C.toList=A.flatMap apC):RawAp w (I b) A:=by
 have f:∀(A:List Ap)(i j:Nat)(x:Ap),A[i]? =I x->j<4->(A.flatMap apC)[i*4+j]? =(apC x)[j]? :=by
  intro A
  induction A with
  |nil=>intro i j x h;simp at h
  |cons y A n=>
   intro i j x d g;rw[UN];have o:(apC y).length=4:=rfl;cases i with
   |zero=>
    simp at d;subst d;rw[List.getElem?_append_left OA];simp
   |succ i=>
    rw[List.getElem?_append_right OA,o,show(i+1)*4+j - 4=i*4+j by omega];exact n i j x (by simpa using d) g
 intro i x d;have e:∀j,j<4->w.cell? ⟨b,0+i*4+j,NB⟩=(apC x)[j]? :=by
  intro j g;rw[Z0 h,VD,<-Array.getElem?_toList,m,f A i j x d g]
 exact⟨b,0,rfl,Z5 h,e 0 OA,e 1 OA,e 2 OA,e 3 OA⟩
def fH(g:w.heap[b]? =I (Z #[x0,x1,x2] 3))(f:w.heap[b+1]? =I (Z #[y0,y1,y2] 3))
 (e:w.heap[b+1+1]? =I (Z #[.slice (I b) 3 3,.slice (I ⟨b+1,0,NB⟩) 3 3] 57)):RawL w (I ⟨b+1+1,0,NB⟩) [[x0,x1,x2],[y0,y1,y2]]:=by
 intro i l d
 match i,d with
 |0,d=>
  obtain rfl:=YT d;exact⟨b+1+1,0,_,3,rfl,Z5 e,by rw[Z0 e];rfl,OD,Qx g rfl⟩
 |1,d=>
  obtain rfl:=YT d;exact⟨b+1+1,0,_,3,rfl,Z5 e,by rw[Z0 e];rfl,OD,Qx f rfl⟩
def mh{d:Nat}(h:w.heap[b]? =I (Z #[] 75))(e:d<=b):w.ownsRow d 75 5 (.slice (I b) 0 0) 0 []:=⟨rfl,.inr ⟨b,0,#[],rfl,e,h,XA _,by simp[maxLen],rfl,rfl⟩⟩
def OwnAp.rawAp{A:List Ap}(h:OwnAp b w v A):∃B e,v= .slice B A.length e/\RawAp w B A:=by
 by_cases z:A=[]
 .subst z;rcases h.2 with⟨rfl,_⟩|⟨g,e,_,rfl,_⟩
  .exact⟨NB,0,rfl,λi x d=>by simp at d⟩
  .exact⟨_,e,rfl,λi x d=>by simp at d⟩
 .have hp:0<A.length:=List.length_pos_iff.2 z;obtain⟨g,e,rfl,_,E⟩:=XT h hp;refine⟨_,e,rfl,λi x d=> ?_⟩;have m:∀(A:List Ap)(i j:Nat)(x:Ap),A[i]? =I x->j<4->(A.flatMap apC)[i*4+j]? =(apC x)[j]? :=by
   intro A
   induction A with
   |nil=>intro i j x h;simp at h
   |cons y A L=>
    intro i j x d n;rw[UN];have F:(apC y).length=4:=rfl;cases i with
    |zero=>
     simp at d;subst d;rw[List.getElem?_append_left OA];simp
    |succ i=>
     rw[List.getElem?_append_right OA,F,show(i+1)*4+j - 4=i*4+j by omega];exact L i j x (by simpa using d) n
  have f:∀j u,j<4->(apC x)[j]? =I u->w.cell? ⟨g,0+i*4+j,NB⟩=I u:=by
   intro j u n K;have o:=h.cells (g:=g) rfl (i*4+j) u (by rw[m A i j x d n];exact K);rw[ZU]at o;rw[VD];exact o
  exact⟨g,0,rfl,E,f 0 _ OA rfl,f 1 _ OA rfl,f 2 _ OA rfl,f 3 _ OA rfl⟩
def mZ(w:NL)(hM:Meas w)(E7:Most w)(hd:Deb w):NW prog 6 #[] w (OI (.bool U) w):=by
 go_enter fk Tryz.func6,Tryz.ntmps6;go_wp2_with fail;refine(ll _).mono ?_;rintro e wA ⟨B,rfl,m2,o1⟩;rename_i Q K d;refine d _ _ ?_;clear d;go_wp2_with fail;refine(jL _).mono ?_;rintro e w0 ⟨D,rfl,O6,Pd⟩;have I9:=o1.trans Pd;have Li:=jG (Pd.get m2);have Ra:RawS w0 (I D) exS:=DI O6 rfl;have N8:=hM.ext I9;have Cg:=E7.ext I9;have j2:=hd.ext I9;have Dg:=Ext.rfl' w0;rename_i Q K d;refine d _ _ ?_;clear d;go_wp2_with fail;refine(DN [0,1,2] 3 1 rfl OC v_m1 B _ _ (N8.ext ((((Dg.alloc _).alloc _).alloc _))) (Li.ext ((((Dg.alloc _).alloc _).alloc _))) (Qx (l:=[0,1,2]) (by simp only[Z3,Z2];exact YZ trivial) rfl)).r λw1 m=> ?_;have Bo:Ext w0 w1:=((((Ext.rfl' w0).alloc _).alloc _).alloc _).trans m;have b1:w1.heap[w0.heap.size]? =I (Z #[.int J 10,.int J 2,.int J 5,.int J 3,.slice (I B) 7 7] 26):=m.get (by simp only[Z3,Z2];rw[XB OA,XB OA,YZ trivial]);have b8:w1.heap[w0.heap.size+1]? =I (Z #[.int J 2,.int J 4,.int J 1,.int J 2,.slice (I D) 3 3] 31):=m.get (by simp only[Z3,Z2];rw[XB OA,YZ trivial]);have Ga:=Dg.trans Bo
 clear m;have g0:=Z5 b8;have j9:=Z5 b1;have q0:=Z0 b1 0;have q1:=Z0 b1 1;have q2:=Z0 b1 2;have q3:=Z0 b1 3;have q4:=Z0 b1 4;have o:=Z0 b8 0;have y:=Z0 b8 1;have A:=Z0 b8 2;have x:=Z0 b8 3;have z:=Z0 b8 4;simp only[YC,YA,YB]at q0 o q1 y q2 A q3 x q4 z;rename_i Q K d;refine d _ _ ?_;clear d;go_wp2_with fail;refine(DN [0,3] 2 0 rfl OC v_m2 B _ _ (N8.ext ((Ga.alloc _))) (Li.ext ((Ga.alloc _))) (Qx (l:=[0,3]) (by simp only[Z3,Z2];exact YZ trivial) rfl)).r λw2 m=> ?_;have C6:Ext w1 w2:=((Ext.rfl' w1).alloc _).trans m;have b4:=C6.get b1;have a8:=C6.get b8;have Dq:=Ga.trans C6;clear m;have Gm:=Z5 a8;have j4:=Z5 b4;clear g0 j9;clear q0 o q1 y q2 A q3 x q4 z;have q0:=Z0 b4 0;have q1:=Z0 b4 1;have q2:=Z0 b4 2;have q3:=Z0 b4 3;have q4:=Z0 b4 4;have o:=Z0 a8 0;have y:=Z0 a8 1;have A:=Z0 a8 2;have x:=Z0 a8 3;have z:=Z0 a8 4;simp only[YC,YA,YB]at q0 o q1 y q2 A q3 x q4 z;rename_i Q K d;refine d _ _ ?_;clear d;go_wp2_with fail;refine(DN [0,6] 2 2 rfl OC v_m3 B _ _ (N8.ext ((Dq.alloc _))) (Li.ext ((Dq.alloc _))) (Qx (l:=[0,6]) (by simp only[Z3,Z2];exact YZ trivial) rfl)).r λw3 m=> ?_;have D9:Ext w2 w3:=((Ext.rfl' w2).alloc _).trans m;have b6:=D9.get b4;have c2:=D9.get a8;have S4:=Dq.trans D9;clear m;have Um:=Z5 c2;have g1:=Z5 b6;clear Gm j4;clear q0 o q1 y q2 A q3 x q4 z;have q0:=Z0 b6 0;have q1:=Z0 b6 1;have q2:=Z0 b6 2;have q3:=Z0 b6 3;have q4:=Z0 b6 4;have o:=Z0 c2 0;have y:=Z0 c2 1;have A:=Z0 c2 2;have x:=Z0 c2 3;have z:=Z0 c2 4;simp only[YC,YA,YB]at q0 o q1 y q2 A q3 x q4 z;rename_i Q K d;refine d _ _ ?_;clear d;go_wp2_with fail;refine(ez B _ _ (N8.ext ((S4.alloc _))) (Li.ext ((S4.alloc _))) (Qx (l:=[0,2,3]) (by simp only[Z3,Z2];exact YZ trivial) rfl)).mono ?_;rintro e w4 ⟨v9,rfl,n8,m⟩;have Gn:Ext w3 w4:=((Ext.rfl' w3).alloc _).trans m;have b3:=Gn.get b6;have c3:=Gn.get c2;have Yn:=S4.trans Gn;obtain⟨a9,c9,rfl,Va⟩:=n8.rawAp;rw[v_ap.2.2];clear m;have f5:=Z5 c3;have i4:=Z5 b3;clear Um g1;clear q0 o q1 y q2 A q3 x q4 z;have q0:=Z0 b3 0;have q1:=Z0 b3 1;have q2:=Z0 b3 2;have q3:=Z0 b3 3;have q4:=Z0 b3 4;have o:=Z0 c3 0;have y:=Z0 c3 1;have A:=Z0 c3 2;have x:=Z0 c3 3;have z:=Z0 c3 4
 simp only[YC,YA,YB]at q0 o q1 y q2 A q3 x q4 z;rename_i Q K d;refine d _ _ ?_;clear d;go_wp2_with fail;refine(oY B _ (N8.ext Yn) (Li.ext Yn)).mono ?_;rintro e w5 ⟨o9,p2,rfl,g9,j0,m⟩;have Ru:Ext w4 w5:=m;have b5:=Ru.get b3;have c5:=Ru.get c3;have Se:=Yn.trans Ru;obtain⟨n0,n7,rfl,f4⟩:=g9.rawL OC;obtain⟨m3,n2,rfl,g4,j8⟩:=j0.rawI;clear j8;clear m;have i8:=Z5 c5;have j3:=Z5 b5;clear f5 i4;clear q0 o q1 y q2 A q3 x q4 z;have q0:=Z0 b5 0;have q1:=Z0 b5 1;have q2:=Z0 b5 2;have q3:=Z0 b5 3;have q4:=Z0 b5 4;have o:=Z0 c5 0;have y:=Z0 c5 1;have A:=Z0 c5 2;have x:=Z0 c5 3;have z:=Z0 c5 4;simp only[YC,YA,YB]at q0 o q1 y q2 A q3 x q4 z;rename_i Q K d;refine d _ _ ?_;clear d;go_wp2_with fail;refine(gW B _ (N8.ext Se) (Li.ext Se)).r λw6 m=> ?_;have E6:Ext w5 w6:=m;have c6:=E6.get b5;have b2:=E6.get c5;have d8:=Se.trans E6;clear m;have h9:=Z5 b2;have h7:=Z5 c6;clear i8 j3;clear q0 o q1 y q2 A q3 x q4 z;have q0:=Z0 c6 0;have q1:=Z0 c6 1;have q2:=Z0 c6 2;have q3:=Z0 c6 3;have q4:=Z0 c6 4
 have o:=Z0 b2 0;have y:=Z0 b2 1;have A:=Z0 b2 2;have x:=Z0 b2 3;have z:=Z0 b2 4;simp only[YC,YA,YB]at q0 o q1 y q2 A q3 x q4 z;rename_i Q K d;refine d _ _ ?_;clear d;go_wp2_with fail;refine(py D _ (Ra.ext d8)).r λw7 m=> ?_;have Wv:Ext w6 w7:=m;have a6:=Wv.get c6;have b7:=Wv.get b2;have Yo:=d8.trans Wv;clear m;have f6:=Z5 b7;have i1:=Z5 a6;clear h9 h7;clear q0 o q1 y q2 A q3 x q4 z;have q0:=Z0 a6 0;have q1:=Z0 a6 1;have q2:=Z0 a6 2;have q3:=Z0 a6 3;have q4:=Z0 a6 4;have o:=Z0 b7 0;have y:=Z0 b7 1;have A:=Z0 b7 2;have x:=Z0 b7 3;have z:=Z0 b7 4;simp only[YC,YA,YB]at q0 o q1 y q2 A q3 x q4 z;rename_i Q K d;refine d _ _ ?_;clear d;go_wp2_with fail;refine(cB 30 93 100 rfl v_mk1 D _ (Ra.ext ((Yo.alloc _))) (Cg.ext ((Yo.alloc _)))).r λw8 m=> ?_;have Ww:Ext w7 w8:=((Ext.rfl' w7).alloc _).trans m;have c4:=Ww.get a6;have c1:=Ww.get b7;have Yp:=Yo.trans Ww;have n1:w8.heap[w7.heap.size]? =I (Z #[.int J 93,.int J 102] 49):=m.get (by simp only[Z3,Z2];exact YZ trivial)
 clear m;have l4:=Z5 c1;have f1:=Z5 c4;clear f6 i1;clear q0 o q1 y q2 A q3 x q4 z;have q0:=Z0 c4 0;have q1:=Z0 c4 1;have q2:=Z0 c4 2;have q3:=Z0 c4 3;have q4:=Z0 c4 4;have o:=Z0 c1 0;have y:=Z0 c1 1;have A:=Z0 c1 2;have x:=Z0 c1 3;have z:=Z0 c1 4;simp only[YC,YA,YB]at q0 o q1 y q2 A q3 x q4 z;rename_i Q K d;refine d _ _ ?_;clear d;go_wp2_with fail;refine(cB 25 73 80 rfl v_mk2 D _ (Ra.ext ((Yp.alloc _))) (Cg.ext ((Yp.alloc _)))).r λw9 m=> ?_;have H6:Ext w8 w9:=((Ext.rfl' w8).alloc _).trans m;have c0:=H6.get c4;have a7:=H6.get c1;have Yq:=Yp.trans H6;have m7:w9.heap[w8.heap.size]? =I (Z #[.int J 93,.int J 100] 49):=m.get (by simp only[Z3,Z2];exact YZ trivial);clear m;have g5:=Z5 a7;have l3:=Z5 c0;clear l4 f1;clear q0 o q1 y q2 A q3 x q4 z;have q0:=Z0 c0 0;have q1:=Z0 c0 1;have q2:=Z0 c0 2;have q3:=Z0 c0 3;have q4:=Z0 c0 4;have o:=Z0 a7 0;have y:=Z0 a7 1;have A:=Z0 a7 2;have x:=Z0 a7 3;have z:=Z0 a7 4;simp only[YC,YA,YB]at q0 o q1 y q2 A q3 x q4 z
 rename_i Q K d;refine d _ _ ?_;clear d;go_wp2_with fail;refine(AT 4 1 rfl v_h1 D _ (Ra.ext ((Yq.alloc _))) (Cg.ext ((Yq.alloc _)))).r λe0 m=> ?_;have M7:Ext w9 e0:=((Ext.rfl' w9).alloc _).trans m;have V:=M7.get c0;have F:=M7.get a7;have Oc:=Yq.trans M7;have f7:e0.heap[w9.heap.size]? =I (Z #[.int J 73,.int J 80] 49):=m.get (by simp only[Z3,Z2];exact YZ trivial);clear m;have Wx:=Z5 F;have Wy:=Z5 V;clear g5 l3;clear q0 o q1 y q2 A q3 x q4 z;have q0:=Z0 V 0;have q1:=Z0 V 1;have q2:=Z0 V 2;have q3:=Z0 V 3;have q4:=Z0 V 4;have o:=Z0 F 0;have y:=Z0 F 1;have A:=Z0 F 2;have x:=Z0 F 3;have z:=Z0 F 4;simp only[YC,YA,YB]at q0 o q1 y q2 A q3 x q4 z;rename_i Q K d;refine d _ _ ?_;clear d;go_wp2_with fail;refine(AT 3 0 rfl v_h2 D _ (Ra.ext Oc) (Cg.ext Oc)).r λh8 m=> ?_;have M8:Ext e0 h8:=m;have O:=M8.get V;have M:=M8.get F;have Od:=Oc.trans M8;clear m;have Wz:=Z5 M;have X0:=Z5 O;clear Wx Wy;clear q0 o q1 y q2 A q3 x q4 z;have q0:=Z0 O 0;have q1:=Z0 O 1;have q2:=Z0 O 2;have q3:=Z0 O 3;have q4:=Z0 O 4
 have o:=Z0 M 0;have y:=Z0 M 1;have A:=Z0 M 2;have x:=Z0 M 3;have z:=Z0 M 4;simp only[YC,YA,YB]at q0 o q1 y q2 A q3 x q4 z;rename_i Q K d;refine d _ _ ?_;clear d;go_wp2_with fail;refine(qH D _ (Ra.ext Od) (Cg.ext Od)).r λl6 m=> ?_;have Ma:Ext h8 l6:=m;have X:=Ma.get O;have Y:=Ma.get M;have Oe:=Od.trans Ma;clear m;have X2:=Z5 Y;have X3:=Z5 X;clear Wz X0;clear q0 o q1 y q2 A q3 x q4 z;have q0:=Z0 X 0;have q1:=Z0 X 1;have q2:=Z0 X 2;have q3:=Z0 X 3;have q4:=Z0 X 4;have o:=Z0 Y 0;have y:=Z0 Y 1;have A:=Z0 Y 2;have x:=Z0 Y 3;have z:=Z0 Y 4;simp only[YC,YA,YB]at q0 o q1 y q2 A q3 x q4 z;rename_i Q K d;refine d _ _ ?_;clear d;go_wp2_with fail;refine(p7 D _ (Ra.ext Oe) (Cg.ext Oe)).r λn m=> ?_;have Mb:Ext l6 n:=m;have a1:=Mb.get X;have a2:=Mb.get Y;have Rb:=Oe.trans Mb;clear m;have m8:=Z5 a2;have m1:=Z5 a1;clear X2 X3;clear q0 o q1 y q2 A q3 x q4 z;have q0:=Z0 a1 0;have q1:=Z0 a1 1;have q2:=Z0 a1 2;have q3:=Z0 a1 3;have q4:=Z0 a1 4
 have o:=Z0 a2 0;have y:=Z0 a2 1;have A:=Z0 a2 2;have x:=Z0 a2 3;have z:=Z0 a2 4;simp only[YC,YA,YB]at q0 o q1 y q2 A q3 x q4 z;rename_i Q K d;refine d _ _ ?_;clear d;have n3:=Rb.size;have n6:∀W,Ext n W->∀(j:Nat) u,(exS.flatMap rsC)[j]? =I u->W.cell? ((⟨D,0,NB⟩:NP).add j)=I u:=by
  intro W hW j u hu;rw[ZU,Z0 (hW.get (Rb.get O6)),<-Array.getElem?_toList];exact hu
 go_wp2_with (
  at_builtin
  go_loud (refine UB _ rfl _ _ _ rfl (n.heap.size+1+1) 75 Tryz.t75 (.agg #[.int J 0,.int J 0,.int J 0,.int J 0,.int J 0]) 5 40 u68 i80 t80z t80s t80b rfl OA (.slice (I ⟨n.heap.size+1+1,0,NB⟩) 0 0) 0 [] rfl (mh (by simp only[Z3,Z2];exact YZ trivial) (XA _)) D 3 3 (exS.flatMap rsC) rfl rfl (n6 _ ((((Ext.rfl' n).alloc _).alloc _).alloc _)) OC (by simp[maxLen]) OA (by simp only[Z2];omega) ?_)
  intro v' d9 Mc F4 _;obtain⟨m4,g8,rfl,o2,o0⟩:=XT Mc OA;have e8:Ext n d9:=Ext.grown ((((Ext.rfl' n).alloc _).alloc _).alloc _) F4 (λk hk=>by simp[Value.ownBlock]at hk<;>omega);have l5:d9.heap[n.heap.size]? =I (Z #[.int J 38,.int J 48] 49):=Vx F4 (λe=>by simp[Value.ownBlock]at e<;>omega) (by simp only[Z3,Z2];rw[XB OA,XB OA,YZ trivial]);have l0:d9.heap[n.heap.size+1]? =I (Z #[.int J 2,.int J 4,.int J 1,.int J 2,.slice (I D) 3 3] 31):=Vx F4 (λe=>by simp[Value.ownBlock]at e<;>omega) (by simp only[Z3,Z2];rw[XB OA,YZ trivial]);clear F4)
 refine(P7 _ _ _).r λd7 Md=> ?_;have g3:=e8.trans Md;have g2:=Md.get l5;have l2:=Md.get l0;have Rc:=ZT Mc Md;rename_i Q K d;refine d _ _ ?_;clear d
 go_wp2_with (
  at_builtin
  go_loud (refine UB _ rfl _ _ _ rfl (n.heap.size+1+1) 75 Tryz.t75 (.agg #[.int J 0,.int J 0,.int J 0,.int J 0,.int J 0]) 5 40 u68 i80 t80z t80s t80b rfl OA (.slice (I m4) 3 g8) 3 (exS.flatMap rsC) rfl (Rc.alloc _) d7.heap.size 1 1 (rsC ⟨20,70,70,0,0⟩) rfl rfl ?_ OC (by simp[maxLen]) OA (by simp only[Z2];have:=Md.size;omega) ?_)
  .intro j u hu;rw[ZU,Z0 (by rw[Z3,YZ rfl]),<-Array.getElem?_toList];exact hu
  intro v' a5 Re F5 _;obtain⟨a0,a3,c7,rfl,o7,j5,X4⟩:∃g c c7,v'= .slice (I ⟨g,0,NB⟩) (3+1) c/\n.heap.size+1+1<=g/\a5.heap[g]? =I (Z c7 75)/\c7.toList.take ((3+1)*5)=exS.flatMap rsC++rsC ⟨20,70,70,0,0⟩:=by
   obtain⟨_,⟨_,h⟩|⟨g,c,c7,h1,h2,h3,_,_,_,h4⟩⟩:=Re
   .omega
   .exact⟨g,c,c7,h1,h2,h3,h4⟩
  have l1:Ext n a5:=Ext.grown (g3.alloc _) F5 (λk hk=>by simp[Value.ownBlock]at hk<;>omega);have g6:a5.heap[n.heap.size]? =I (Z #[.int J 38,.int J 48] 49):=Vx F5 (λe=>by simp[Value.ownBlock]at e<;>omega) (((Ext.rfl' d7).alloc _).get g2);have E:a5.heap[n.heap.size+1]? =I (Z #[.int J 2,.int J 4,.int J 1,.int J 2,.slice (I D) 3 3] 31):=Vx F5 (λe=>by simp[Value.ownBlock]at e<;>omega) (((Ext.rfl' d7).alloc _).get l2);clear F5;have y0:=Z0 E 0;have y1:=Z0 E 1;have y2:=Z0 E 2;have y3:=Z0 E 3;have y4:=Z0 E 4;have z4:=Z8 E 4;have n4:=Z5 E;simp only[YC,YA,YB]at y0 y1 y2 y3 y4)
 have e5:=l1.setCell ⟨n.heap.size+1,4,NB⟩ (.slice (I a0) 4 a3) (by simp only;omega);have K1:(a5.setCell ⟨n.heap.size+1,4,NB⟩ (.slice (I a0) 4 a3)).heap[a0]? =I (Z c7 75):=(set_ne (by simp only;omega) _).trans j5;have d1:=Zb E (i:=4) (.slice (I a0) 4 a3);have j7:(a5.setCell ⟨n.heap.size+1,4,NB⟩ (.slice (I a0) 4 a3)).heap[n.heap.size]? =I (Z #[.int J 38,.int J 48] 49):=(set_ne (by simp only;omega) _).trans g6;replace d1:(a5.setCell ⟨n.heap.size+1,4,NB⟩ (.slice (I a0) 4 a3)).heap[n.heap.size+1]? =I (Z #[.int J 2,.int J 4,.int J 1,.int J 2,.slice (I a0) 4 a3] 31):=d1;generalize (a5.setCell ⟨n.heap.size+1,4,NB⟩ (.slice (I a0) 4 a3))=ws at e5 K1 d1 j7⊢;have An:=Rb.trans e5;refine(qZ a0 a3 ws (DI (L:=exS4) K1 (X4.trans (by rfl))) (Cg.ext An) (j2.ext An)).mono ?_;rintro e n9 ⟨r5,rfl,l9,Me⟩;obtain⟨i7,i6,rfl,i0,h0⟩:=l9.rawI;have a4:=Me.get d1;have i2:=Me.get j7;have j1:=Me.get K1;have Rf:=An.trans Me;clear h0 y0 y1 y2 y3 y4 z4;have y0:=Z0 a4 0;have y1:=Z0 a4 1;have y2:=Z0 a4 2;have y3:=Z0 a4 3;have y4:=Z0 a4 4
 simp only[YC,YA,YB]at y0 y1 y2 y3 y4;rename_i Q K d;refine d _ _ ?_;clear d;go_wp2_with fail;refine(jw a0 a3 n9 (DI (L:=exS4) j1 (X4.trans (by rfl))) (Cg.ext Rf) (j2.ext Rf)).mono ?_;rintro e l7 ⟨o8,rfl,f3,Of⟩;obtain⟨f2,j6,rfl,l8,i5⟩:=f3.rawI;have X5:=i0.ext Of;have f0:=e5.trans (Me.trans Of);have Js:=Mb.trans f0;have X6:=Ma.trans Js;have Fo:=M8.trans X6;have Bn:=M7.trans Fo;have Ds:=H6.trans Bn;have Cw:=Ww.trans Ds;have B0:=Wv.trans Cw;have As:=E6.trans B0;have Ag:=Ru.trans As;have h5:=Va.ext Ag;have X7:=f4.ext As;have X8:=g4.ext As;have f8:=Ds.get n1;have g7:=Bn.get m7;have e6:=Fo.get f7;have d6:=Of.get i2;have m6:=Rf.trans Of;clear i5 y0 y1 y2 y3 y4 q0 q1 q2 q3 q4 o y A x z Ag As B0 Cw Ds Bn Fo X6 Js Bo C6 D9 Gn Ru E6 Wv Ww H6 M7 M8 Ma Mb Ga Dq S4 Yn Se d8 Yo Yp Yq Oc Od Oe;rename_i Q K d;refine d _ _ ?_;clear d;go_wp2_with fail;refine(rx a9 3 c9 (Oq 10 2 5 3 exL [0,2,3]) _ 3 3 exA _ v_ap.2.2 rfl OC (h5.ext ((Ext.rfl' l7).alloc _)) (pm (by simp only[Z3,Z2];exact YZ trivial) rfl)).r λh6 m=> ?_;have X9:=((Ext.rfl' l7).alloc _).trans m;rw[v_ap.1];clear m;rename_i Q K d;refine d _ _ ?_;clear d;go_wp2_with fail;refine(fS n0 2 n7 [[0,1,2],[3,4,5]] _ 2 2 [[0,1,2],[3,4,5]] _ rfl rfl OC (X7.ext (((X9.alloc _).alloc _).alloc _)) (fH (b:=h6.heap.size) (by simp only[Z3,Z2];rw[XB OA,XB OA,YZ trivial]) (by simp only[Z3,Z2];rw[XB OA,YZ trivial]) (by simp only[Z3,Z2];exact YZ trivial))).r λm0 m=> ?_;have Xa:=X9.trans (((((Ext.rfl' h6).alloc _).alloc _).alloc _).trans m);rw[show decide (([[0,1,2],[3,4,5]]:List (List Int))=[[0,1,2],[3,4,5]])=U from by decide];clear m;rename_i Q K d;refine d _ _ ?_;clear d;go_wp2_with fail;refine(JR m3 1 n2 [6] _ 1 1 [6] _ rfl rfl OC (X8.ext (Xa.alloc _)) (Qx (by simp only[Z3,Z2];exact YZ trivial) rfl)).r λn5 m=> ?_;have Ir:=Xa.trans (((Ext.rfl' m0).alloc _).trans m);rw[show decide (([6]:List Int)=[6])=U from by decide];clear m;rename_i Q K d;refine d _ _ ?_;clear d;go_wp2_with fail;obtain⟨w1,Fm⟩:∃w1:NL,w1=n5:=⟨_,rfl⟩;have d2:=Ir.get f8;have d3:=Ir.get g7;have d0:=Ir.get e6;have c8:=Ir.get d6
 have Pm:=X5.ext Ir;have Pn:=l8.ext Ir;have f9:=m6.trans Ir;rw[<-Fm]at d2 d3 d0 c8 Pm Pn f9⊢;clear Fm;have z8:=Zc d2;have p0:=ZQ z8.1;have p4:=ZQ z8.2.1;clear z8;have z9:=Zc d3;have p3:=ZQ z9.1;have p1:=ZQ z9.2.1;clear z9;have d4:=Zc d0;have o5:=ZQ d4.1;have o6:=ZQ d4.2.1;clear d4;have d5:=Zc c8;have o4:=ZQ d5.1;have o3:=ZQ d5.2.1;clear d5;refine Z9 49 OB ?_;refine ZS [0] OB OB ?_;simp only[ZR,YB,YA,YK,YJ]
 repeat (go_big_quiet_step (fail))
 refine XI ?_;refine Z4 1 (f:=30) (args:= #[.int J 93,.int J 102]) (v:= .agg #[.int J 93,.int J 102]) OB rfl OB rfl (λW=>by simp[go_sem,NU,Act.eval]) (λW _=>P7 93 102 W) ?_;go_simp;refine ZS [2,3,4] OB OB ?_;simp only[ZR,YB,YA,YK,YJ]
 repeat (go_big_quiet_step (fail))
 refine XI ?_;refine Z4 5 (f:=30) (args:= #[.int J 93,.int J 100]) (v:= .agg #[.int J 93,.int J 100]) OB rfl OB rfl (λW=>by simp[go_sem,NU,Act.eval]) (λW _=>P7 93 100 W) ?_;go_simp;refine ZS [6,7,8,9] OB OB ?_;simp only[ZR,YB,YA,YK,YJ]
 repeat (go_big_quiet_step (fail))
 refine XI ?_;refine Z4 10 (f:=30) (args:= #[.int J 73,.int J 80]) (v:= .agg #[.int J 73,.int J 80]) OB rfl OB rfl (λW=>by simp[go_sem,NU,Act.eval]) (λW _=>P7 73 80 W) ?_;go_simp;refine ZS [11,12,13,14,15,16,17,18,19,20,21,22,23,24,25,26,27,28,29,30,31,32,33,34] OB OB ?_;simp only[ZR,YB,YA,YK,YJ]
 repeat (go_big_quiet_step (fail))
 refine XI ?_;refine Z4 35 (f:=30) (args:= #[.int J 38,.int J 48]) (v:= .agg #[.int J 38,.int J 48]) OB rfl OB rfl (λW=>by simp[go_sem,NU,Act.eval]) (λW _=>P7 38 48 W) ?_;go_simp;refine ZS [36,37,38,39] OB OB ?_;simp only[ZR,YB,YA,YK,YJ]
 repeat (go_big_quiet_step (fail))
 refine XI ?_;refine Yu 40 rfl OB rfl (λW hW=>Ye ⟨.slice (I W.heap.size) 2 2,W.alloc (Z #[.int J 1,.int J 3] 3),OE,(Ext.rfl' W).alloc _,?_⟩);have m9:RawI (W.alloc (Z #[.int J 1,.int J 3] 3)) (I W.heap.size) [1,3]:=Qx ((Z3 _ _ _).trans (YZ rfl)) rfl;have e9:=hW.alloc (Z #[.int J 1,.int J 3] 3);obtain⟨b9,Rg⟩:∃b,b=W.heap.size:=⟨_,rfl⟩;rw[<-Rg]at m9;rw[<-Rg];generalize W.alloc _=W9 at m9 e9⊢;clear Rg hW;clear W;go_simp
 refine Z4 41 (f:=35) (args:= #[.slice i7 2 i6,.slice (I b9) 2 2]) (v:= .bool U) OB rfl OB rfl (λW=>by simp[go_sem,NU,Act.eval]) (λW hW=>by
  have:=JR i7 2 i6 [1,3] (I b9) 2 2 [1,3] W rfl rfl OC (Pm.ext (e9.trans hW)) (m9.ext hW)
  rwa [VB rfl]at this) ?_
 go_simp;refine ZS [42,43,44] OB OB ?_;simp only[ZR,YB,YA,YK,YJ]
 repeat (go_big_quiet_step (fail))
 refine XI ?_;refine Yu 45 rfl OB rfl (λW hW=>Ye ⟨.slice (I W.heap.size) 3 3,W.alloc (Z #[.int J 0,.int J 1,.int J 2] 3),OE,(Ext.rfl' W).alloc _,?_⟩);clear m9;have m9:RawI (W.alloc (Z #[.int J 0,.int J 1,.int J 2] 3)) (I W.heap.size) [0,1,2]:=Qx ((Z3 _ _ _).trans (YZ rfl)) rfl;have e9:=(e9.trans hW).alloc (Z #[.int J 0,.int J 1,.int J 2] 3);obtain⟨b9,Rg⟩:∃b,b=W.heap.size:=⟨_,rfl⟩;rw[<-Rg]at m9;rw[<-Rg];generalize W.alloc _=W9 at m9 e9⊢;clear Rg hW;clear W;go_simp
 refine Z4 46 (f:=35) (args:= #[.slice f2 3 j6,.slice (I b9) 3 3]) (v:= .bool U) OB rfl OB rfl (λW=>by simp[go_sem,NU,Act.eval]) (λW hW=>by
  have:=JR f2 3 j6 [0,1,2] (I b9) 3 3 [0,1,2] W rfl rfl OC (Pn.ext (e9.trans hW)) (m9.ext hW)
  rwa [VB rfl]at this) ?_
 go_simp;refine ZS [47,48] OB OB ?_;simp only[ZR,YB,YA,YK,YJ]
 repeat (go_big_quiet_step (fail))
 refine XI ?_;refine Yt OB (λW hW=> ?_);have m5:=I9.trans (f9.trans (e9.trans hW));go_wp2;go_ret;exact⟨rfl,m5⟩
end
section
open Go Go.Nk Go.RowKit
variable [Tw]
def WR(L:List Sf):Bool:=decide (20<L.length)||L.any λx=>decide (100<x.nm.size)
def fT(a b c m:Int)(d:Option NP)(n f:Nat)(L:List Sf)(w:NL)(B:L.length=n)(M:RawA w d L):
 NW gp 5 #[.agg #[a,b,c,m,.slice d n f]] w (OI (.bool (WR L)) w):=by
 by_cases o:20<L.length
 .have e:WR L=U:=by rw[WR,VB o,QM]
  have K:(20:Int)<(n:Int):=OA
  rw[e];clear o e;go_enter fk Tryz.func5,Tryz.ntmps5;go_wp2;go_ret;exact⟨rfl,(Ext.rfl' w).alloc _⟩
 .have K:(n:Int)<=20:=OA
  have H:Hid (WR L=(L.drop 0).any λx=>decide (100<x.nm.size)):=by show _=_;rw[WR,XV o,TU];rfl
  clear o;go_enter fk Tryz.func5,Tryz.ntmps5;go_wp2;go_loopw [3] (λv wr=>∃i:Nat,i<=n/\v= .int J i/\wr.heap[w.heap.size]? =I (Z #[a,b,c,m,.slice d n f] 26)/\Ext w wr/\Hid (WR L=(L.drop i).any λx=>decide (100<x.nm.size))) (λv _=>n - (intOf v).toNat)
  case atStart=>exact⟨0,XL _,rfl,by rw[Z3,YZ rfl],(Ext.rfl' w).alloc _,H⟩
  case round=>
   obtain⟨i,hi,rfl,A,j,u⟩:=hrel;clear H;have q4:=Z0 A 4;simp only[YC,YA,YB]at q4;by_cases O:i=n
   .subst O;have e:WR L=ND:=(by rw[u.out,<-B,UW];rfl);go_wp2;go_ret;exact⟨ZP (a:=ND) e.symm,j⟩
   .have A5:i<n:=OA;obtain⟨x,z⟩:∃x,L[i]? =I x:=⟨_,YH OA⟩;obtain⟨_,_,rfl,_,F,E⟩:=(M.ext j) i x z;have k0:=F.1;have g:Hid (WR L=(decide (100<x.nm.size)||(L.drop (i+1)).any λx=>decide (100<x.nm.size))):=(by show _=_;rw[u.out,WP z,List.any_cons]);clear u z;unfold maxLen at E;have V:¬n<=i:=OA;by_cases h:100<x.nm.size
    .have e:WR L=U:=(by rw[g.out,VB h,QM]);have y:(100:Int)<(x.nm.size:Int):=OA;clear g h;go_wp2;go_ret;exact⟨ZP (a:=U) e.symm,j⟩
    .have Fw:Hid (WR L=(L.drop (i+1)).any λx=>decide (100<x.nm.size)):=(by show _=_;rw[g.out,XV h,TU]);have y:(x.nm.size:Int)<=100:=OA;clear g h;go_wp2;exact⟨⟨i+1,OA,by push_cast;rfl,A,j,Fw⟩,by simp[intOf];omega⟩
end
end Go.Proofs.Tryq
section
namespace Go.Ns
open Go Go.Conc
def R3{G:List Item->Act->NL->Prop}(h:c=c')(H:Y0 P c' G a w):Y0 P c G a w:=h▸H
def rest:Nat->Code->Code
 |n+1,.seq _ y=>rest n y
 |_,c=>c
end Go.Ns
namespace Go.Proofs.Tryp
open Go Go.Nk Go.Ns Go.RowKit Go.Shelf Go.Proofs Go.Proofs.Tryq
attribute [local instance] k3
noncomputable def body3:Code:=Tryz.f3.body.getD .skip
def Ar(f:Nat->NM)(t p q:NM):Array NM:=((List.range 121).map λi=>if i=0 then t else if i=4 then p else if i=5 then q else f i).toArray
def JO(j:T.size=121)(e:T[0]? =I t)(d:T[4]? =I p)(g:T[5]? =I q):∃f,T=Ar f t p q:=by
 refine⟨λi=>T[i]?.getD undef,?_⟩;apply Array.ext_getElem?;intro i;simp only[Ar,YC,List.getElem?_map];by_cases hi:i<121
 .rw[List.getElem?_range hi];obtain⟨x,h⟩:∃x,T[i]? =I x:=⟨_,YN OA⟩;simp only[XN]
  repeat' split
  .subst i;exact e
  .subst i;exact d
  .subst i;exact g
  .rw[h];rfl
 .rw[Array.getElem?_eq_none OA,List.getElem?_eq_none (by simp;omega)];rfl
def Oh(n:Nat)(t:List UInt8)(w W:NL)(G:List Item->Act->NL->Prop):Prop:=∀T:Array NM,T.size=121->T[0]? =I (str t)->T[4]? =I (.pointer (I w.heap.size))->T[5]? =I (.pointer (I ⟨w.heap.size+1,0,NB⟩))->Y0 NY (rest n body3) G {tmps:=T,defers:=[]} W
def nx(F:Int)(a b c m V M L A:Int)(e i:Option NP)(n j X u:Nat)(t:List UInt8)(w W:NL)(x:List UInt8)(h:Ext w W)
 (g:W.heap[w.heap.size]? =I (Z #[a,b,c,m,.slice e n j] 26))(o:W.heap[w.heap.size+1]? =I (Z #[V,M,L,A,.slice i X u] 31))(G:List Item->Act->NL->Prop)
 (y:∀W,Ext w W->W.heap[w.heap.size]? =I (Z #[a,b,c,m,.slice e n j] 26)->W.heap[w.heap.size+1]? =I (Z #[V,M,L,A,.slice i X u] 31)->Oh 5 t w W G)
 (O:∀W,Ext w W->NW NY 7 #[.agg #[a,b,c,m,.slice e n j]] W (OI (.tuple #[str x,F]) W))
 (E:∀W,Ext w W->NW NY 8 #[.agg #[a,b,c,m,.slice e n j]] W (OI (.tuple #[str x,F]) W)):
 Oh 2 t w W G:=by
 intro T hz h0 Y h3;obtain⟨f,rfl⟩:=JO hz h0 Y h3;simp only[Ar,List.range,List.range.loop,List.map,Nat.reduceEqDiff,XY,VF];replace y:Hid _:=y;obtain⟨q0,q1,q2,q3,q4⟩:=Xc g;refine R3 (c':= .seq _ (.seq _ (.seq _ _))) rfl ?_;refine Ve λK B=> ?_
 go_wp2_with (first
  |(go_at_call 7;refine(O _ h).r λz d=> ?_
    replace h:=h.trans d;replace g:=d.get g;replace o:=d.get o;clear d q0 q1 q2 q3 q4;obtain⟨q0,q1,q2,q3,q4⟩:=Xc g)
  |(go_at_call 8;refine(E _ h).r λz d=> ?_
    replace h:=h.trans d;replace g:=d.get g;replace o:=d.get o;clear d q0 q1 q2 q3 q4;obtain⟨q0,q1,q2,q3,q4⟩:=Xc g))
 refine Ve λK B=> ?_
 go_wp2_with (first
  |(go_at_call 7;refine(O _ h).r λz d=> ?_
    replace h:=h.trans d;replace g:=d.get g;replace o:=d.get o;clear d q0 q1 q2 q3 q4;obtain⟨q0,q1,q2,q3,q4⟩:=Xc g)
  |(go_at_call 8;refine(E _ h).r λz d=> ?_
    replace h:=h.trans d;replace g:=d.get g;replace o:=d.get o;clear d q0 q1 q2 q3 q4;obtain⟨q0,q1,q2,q3,q4⟩:=Xc g))
 refine Ve λK B=> ?_
 go_wp2;refine R3 (c':=rest 5 body3) OB ?_;exact y.out _ h g o _ rfl rfl rfl rfl
theorem print_card(F:Int)(a b c m B A z y:Int)(o d:Option NP)(n x E g:Nat)(t:List UInt8)(w W:NL)(u:List UInt8)(i:Ext w W)
 (j:W.heap[w.heap.size]? =I (Z #[a,b,c,m,.slice o n x] 26))(h:W.heap[w.heap.size+1]? =I (Z #[B,A,z,y,.slice d E g] 31))(G:List Item->Act->NL->Prop)
 (L:∀W,Ext w W->W.heap[w.heap.size]? =I (Z #[a,b,c,m,.slice o n x] 26)->W.heap[w.heap.size+1]? =I (Z #[B,A,z,y,.slice d E g] 31)->Oh 8 t w W G)
 (X:∀W,Ext w W->NW NY 9 #[.agg #[B,A,z,y,.slice d E g]] W (OI (.tuple #[str u,F]) W))
 (V:∀W,Ext w W->NW NY 10 #[.agg #[B,A,z,y,.slice d E g]] W (OI (.tuple #[str u,F]) W)):
 Oh 5 t w W G:=by
 intro T hz h0 Y h3;obtain⟨f,rfl⟩:=JO hz h0 Y h3;simp only[Ar,List.range,List.range.loop,List.map,Nat.reduceEqDiff,XY,VF];replace L:Hid _:=L;obtain⟨q0,q1,q2,q3,q4⟩:=Xc h;refine R3 (c':= .seq _ (.seq _ (.seq _ _))) rfl ?_;refine Ve λK O=> ?_
 go_wp2_with (first
  |(go_at_call 9;refine(X _ i).r λM e=> ?_
    replace i:=i.trans e;replace j:=e.get j;replace h:=e.get h;clear e q0 q1 q2 q3 q4;obtain⟨q0,q1,q2,q3,q4⟩:=Xc h)
  |(go_at_call 10;refine(V _ i).r λM e=> ?_
    replace i:=i.trans e;replace j:=e.get j;replace h:=e.get h;clear e q0 q1 q2 q3 q4;obtain⟨q0,q1,q2,q3,q4⟩:=Xc h))
 refine Ve λK O=> ?_
 go_wp2_with (first
  |(go_at_call 9;refine(X _ i).r λM e=> ?_
    replace i:=i.trans e;replace j:=e.get j;replace h:=e.get h;clear e q0 q1 q2 q3 q4;obtain⟨q0,q1,q2,q3,q4⟩:=Xc h)
  |(go_at_call 10;refine(V _ i).r λM e=> ?_
    replace i:=i.trans e;replace j:=e.get j;replace h:=e.get h;clear e q0 q1 q2 q3 q4;obtain⟨q0,q1,q2,q3,q4⟩:=Xc h))
 refine Ve λK O=> ?_
 go_wp2;refine R3 (c':=rest 8 body3) OB ?_;exact L.out _ i j h _ rfl rfl rfl rfl
def oM(r:St×Int×Int)(t:List UInt8)(w W:NL)(g:Ext w W)(G:List Item->Act->NL->Prop)(M:∀W,Ext w W->Oh 11 t w W G)
 (V:∀W,Ext w W->NW NY 11 #[str t] W λe z=>KS r e z/\Ext W z)
 (E:∀W,Ext w W->NW NY 12 #[str t] W λe z=>KS r e z/\Ext W z)
 (O:∀W j o i y,RawA W j r.1.L->RawA W i r.1.L->NW NY 13 #[.agg #[r.1.a,r.1.b,r.1.c,r.1.m,.slice j r.1.L.length o],.agg #[r.1.a,r.1.b,r.1.c,r.1.m,.slice i r.1.L.length y]] W (OI (.bool U) W)):
 Oh 8 t w W G:=by
 intro T hz Y X h3;obtain⟨f,rfl⟩:=JO hz Y X h3;clear hz Y X h3;simp only[Ar,List.range,List.range.loop,List.map,Nat.reduceEqDiff,XY,VF];replace M:Hid _:=M;refine R3 (c':= .seq _ (.seq _ (.seq _ _))) rfl ?_;refine Ve λK hk=> ?_
 go_wp2_with (first|(go_at_call 11;refine(V _ g).mono ?_;rintro e u ⟨⟨j,o,rfl,h⟩,Af⟩))
 have d:=(Ext.rfl' u).alloc (Z #[r.1.a,r.1.b,r.1.c,r.1.m,.slice j r.1.L.length o] 26);have n:(u.alloc (Z #[r.1.a,r.1.b,r.1.c,r.1.m,.slice j r.1.L.length o] 26)).heap[u.heap.size]? =I (Z #[r.1.a,r.1.b,r.1.c,r.1.m,.slice j r.1.L.length o] 26):=by simp only[Z3];rw[YZ trivial]
 replace g:=(g.trans Af).trans d;replace h:=h.ext d;generalize C8:u.heap.size=x1 at n⊢;generalize World.alloc u _=W2 at g h n⊢;clear d Af C8 u W;refine Ve λK hk=> ?_
 go_wp2_with (first|(go_at_call 12;refine(E _ g).mono ?_;rintro e x ⟨⟨i,y,rfl,B⟩,A⟩))
 have d:=(Ext.rfl' x).alloc (Z #[r.1.a,r.1.b,r.1.c,r.1.m,.slice i r.1.L.length y] 26);have F:(x.alloc (Z #[r.1.a,r.1.b,r.1.c,r.1.m,.slice i r.1.L.length y] 26)).heap[x.heap.size]? =I (Z #[r.1.a,r.1.b,r.1.c,r.1.m,.slice i r.1.L.length y] 26):=by simp only[Z3];rw[YZ trivial]
 replace g:=(g.trans A).trans d;replace n:=(A.trans d).get n;replace h:=h.ext (A.trans d);replace B:=B.ext d;generalize Av:x.heap.size=x2 at F⊢;generalize World.alloc x _=W4 at g h B n F⊢;clear d A Av x W2;obtain⟨q0,q1,q2,q3,q4⟩:=Xc n;obtain⟨_,_,_,_,_⟩:=Xc F;replace O:=λW=>O W j o i y
 refine Ve λK hk=> ?_
 go_wp2_with (first|go_at_call 13;refine(O _ h B).r λ_ As=> ?_)
 refine R3 (c':=rest 11 body3) OB ?_;exact M.out _ (g.trans As) _ rfl rfl rfl rfl
theorem parse_card(r:Sc×Int×Int)(t:List UInt8)(w W:NL)(g:Ext w W)
 (O:∀W,Ext w W->NW NY 14 #[str t] W λe z=>LO r e z/\Ext W z)
 (E:∀W,Ext w W->NW NY 15 #[str t] W λe z=>LO r e z/\Ext W z)
 (M:∀W j o i y,RawS W j r.1.L->RawS W i r.1.L->NW NY 16 #[.agg #[r.1.a,r.1.b,r.1.c,r.1.m,.slice j r.1.L.length o],.agg #[r.1.a,r.1.b,r.1.c,r.1.m,.slice i r.1.L.length y]] W (OI (.bool U) W)):
 Oh 11 t w W (KT 6 6 2 (Ext w)):=by
 intro T hz X V h3;obtain⟨f,rfl⟩:=JO hz X V h3;clear hz X V h3;simp only[Ar,List.range,List.range.loop,List.map,Nat.reduceEqDiff,XY,VF];refine R3 (c':= .seq _ (.seq _ (.seq _ _))) rfl ?_;refine Ve λK Y=> ?_
 go_wp2_with (first|(go_at_call 14;refine(O _ g).mono ?_;rintro e u ⟨⟨j,o,rfl,h⟩,Af⟩))
 have d:=(Ext.rfl' u).alloc (Z #[r.1.a,r.1.b,r.1.c,r.1.m,.slice j r.1.L.length o] 31);have n:(u.alloc (Z #[r.1.a,r.1.b,r.1.c,r.1.m,.slice j r.1.L.length o] 31)).heap[u.heap.size]? =I (Z #[r.1.a,r.1.b,r.1.c,r.1.m,.slice j r.1.L.length o] 31):=by simp only[Z3];rw[YZ trivial]
 replace g:=(g.trans Af).trans d;replace h:=h.ext d;generalize C8:u.heap.size=x1 at n⊢;generalize World.alloc u _=W2 at g h n⊢;clear d Af C8 u W;refine Ve λK Y=> ?_
 go_wp2_with (first|(go_at_call 15;refine(E _ g).mono ?_;rintro e x ⟨⟨i,y,rfl,B⟩,A⟩))
 have d:=(Ext.rfl' x).alloc (Z #[r.1.a,r.1.b,r.1.c,r.1.m,.slice i r.1.L.length y] 31);have F:(x.alloc (Z #[r.1.a,r.1.b,r.1.c,r.1.m,.slice i r.1.L.length y] 31)).heap[x.heap.size]? =I (Z #[r.1.a,r.1.b,r.1.c,r.1.m,.slice i r.1.L.length y] 31):=by simp only[Z3];rw[YZ trivial]
 replace g:=(g.trans A).trans d;replace n:=(A.trans d).get n;replace h:=h.ext (A.trans d);replace B:=B.ext d;generalize Av:x.heap.size=x2 at F⊢;generalize World.alloc x _=W4 at g h B n F⊢;clear d A Av x W2;obtain⟨q0,q1,q2,q3,q4⟩:=Xc n;obtain⟨_,_,_,_,_⟩:=Xc F;replace M:=λW=>M W j o i y
 refine dP 14 OC λK Y=> ?_
 show wpList _ _ _ [_,_,_,_,_,_,_,_,_,_,_,_,_,_] _ _
 go_wp2_with (first|go_at_call 16;refine(M _ h B).r λ_ As=> ?_)
 refine⟨_,14,[15,16],_,_,_,_,_,rfl,rfl,rfl,λv=>⟨_,2,XA 2,.cons (v:=v) rfl rfl rfl (.cons (v:=v) rfl rfl rfl .nil),rfl,rfl⟩,g.trans As⟩
def qx(t:List UInt8):(V0 t).1.L.length<=1000:=by
 unfold V0
 repeat' split
 all_goals first|exact XL _|skip
 rename_i h;exact XC (EA h).2.2.2.2.1 OC
def fD(t:List UInt8):(Vf t).1.L.length<=1000:=by
 unfold Vf
 repeat' split
 all_goals first|exact XL _|skip
 rename_i h;exact XC (EE h).2.2.2.2.1 OC
def texts_hits(a b c m z y u o:Int)(f d:Option NP)(n j A g:Nat)(L:List Sf)(S:List Rs)(t:List UInt8)(w:NL)(V:L.length=n)(Cj:S.length=A)(hM:Meas w)(hp:Pow w)(hx:MaxL w)(he:ErrF w)(hT:ErT w)(hS:RawA w f L)(hC:RawS w d S)
 (cd:Code)(Ea:Tryz.f3.body=I cd):Y0 NY cd (KT 6 6 2 (Ext w)) {tmps:= #[str t,.agg #[a,b,c,m,.slice f n j],.agg #[z,y,u,o,.slice d A g]]++Array.replicate (Tryz.f3.ntmps - 3) undef,defers:=[]} w:=by
 have Xc:cd=body3:=by unfold body3;rw[Ea];rfl
 have Hx:((w.alloc (Z #[a,b,c,m,.slice f n j] 26)).alloc (Z #[z,y,u,o,.slice d A g] 31)).heap[w.heap.size]? =I (Z #[a,b,c,m,.slice f n j] 26):=by simp only[Z3,Z2];rw[XB OA,YZ trivial]
 have Dg:((w.alloc (Z #[a,b,c,m,.slice f n j] 26)).alloc (Z #[z,y,u,o,.slice d A g] 31)).heap[w.heap.size+1]? =I (Z #[z,y,u,o,.slice d A g] 31):=by simp only[Z3,Z2];rw[YZ trivial]
 have E:=((Ext.rfl' w).alloc (Z #[a,b,c,m,.slice f n j] 26)).alloc (Z #[z,y,u,o,.slice d A g] 31);have O:=λW i=>fT a b c m f n j L W V (hS.ext (w':=W) i)
 rw[Xc];clear Ea Xc;refine R3 (c':=Code.seq _ (.seq (.seq _ (.cond _ _ _)) _)) rfl ?_;have J9:Tryz.f3.ntmps=121:=OB
 rw[J9];clear J9;simp only[UG,YP,XW,Nat.reduceAdd,Nat.reduceSub,TF,TE,TM,TG,YJ,YK];refine Ve λK X=> ?_
 go_wp2;generalize World.alloc _ (Z #[z,y,u,o,.slice d A g] 31)=w1 at Hx Dg E⊢
 have hA:∀(T:Array NM) W,Ext w W->T.size=121->∀t1 p1 f1 t2 p2 f2 id,Y0 NY (.seq (.region id #[⟨I 30,.call {callee:= .value (.func 6),args:= #[],argTypes:= #[]},t1,p1,f1,NB⟩,⟨I 6,.assign (.tmp 30),t2,p2,f2,NB⟩] ND) .ret) (KT 6 6 2 (Ext w)) {tmps:=T,defers:=[]} W:=
  λT W i hz t1 p1 f1 t2 p2 f2 id=>dP 0 (XL _) λK X=>X _ _ ⟨_,0,[1],_,_,_,_,_,rfl,rfl,rfl,λv=>⟨_,1,OC,.cons (v:=v) rfl rfl (by
   show(pure (.value (Act.eval (Act.put {tmps:=T,defers:=[]} (I 30) v) (.tmp 30))):Sem Next)=_;simp[Act.put,Act.eval,hz]) .nil,by simp[Act.put,hz],rfl⟩,i⟩
 obtain⟨q0,q1,q2,q3,q4⟩:=Xc Hx;obtain⟨_,p1,p2,_,F⟩:=Xc Dg;by_cases Y:WR L=U\/20<(A:Int)\/2000<(t.length:Int)
 .refine rr (Ve λK X=> ?_);cases hg:WR L
  .by_cases Mt:20<(A:Int)
   .go_wp2_with ((go_at_call 5;refine(O _ E).mono ?_;rw[hg];rintro e W1 ⟨rfl,B⟩;replace F:=B.cellS F))
    refine GL (t:=U) rfl ?_;exact hA _ _ (E.trans B) OD _ _ _ _ _ _ _
   .have a0:2000<(t.length:Int):=(by rcases Y with h|h|h;rw[hg]at h;cases h;exact(Mt h).elim;exact h);go_wp2_with ((go_at_call 5;refine(O _ E).mono ?_;rw[hg];rintro e W1 ⟨rfl,B⟩;replace F:=B.cellS F));refine GL (t:=U) rfl ?_;exact hA _ _ (E.trans B) OD _ _ _ _ _ _ _
  .go_wp2_with ((go_at_call 5;refine(O _ E).mono ?_;rw[hg];rintro e W1 ⟨rfl,B⟩))
   refine GL (t:=U) rfl ?_;exact hA _ _ (E.trans B) OD _ _ _ _ _ _ _
 .have hg:WR L=ND:=by cases h:WR L;rfl;exact(Y (.inl h)).elim
  have Mt:¬20<(A:Int):=λh=>Y (.inr (.inl h))
  have a0:¬2000<(t.length:Int):=λh=>Y (.inr (.inr h))
  refine Ve λK X=> ?_
  go_wp2_with ((go_at_call 5;refine(O _ E).mono ?_;rw[hg];rintro e W1 ⟨rfl,B⟩;replace F:=B.cellS F))
  have M:n<=20:=by
   simp only[WR,Bool.or_eq_false_iff,decide_eq_false_iff_not]at hg;omega
  refine R3 (c':=rest 2 body3) OB ?_;refine nx (Zp a b c m L) a b c m z y u o f d n j A g t w W1 (if Zp a b c m L=0 then GP a b c m L else[]) (E.trans B) (B.get Hx) (B.get Dg) _ ?_ (λW i=> ?_) (λW i=>fx a b c m f n j L W V M (hS.ext i)) _ rfl rfl rfl rfl
  .intro W2 A2 C6 Dq;refine print_card (ZC z y u o S) a b c m z y u o f d n j A g t w W2 (if ZC z y u o S=0 then FJ z y u o S else[]) A2 C6 Dq _ ?_ (λW i=> ?_) (λW i=>pN z y u o d A g S W Cj OA (hC.ext i))
   .intro W3 Ad _ _
    exact oM (V0 t) t w W3 Ad _ (λW i=>parse_card (Vf t) t w W i (λW i=>iu t W OA (hx.ext i) (he.ext i) (hT.ext i)) (λW i=>iX t W OA)
     λW o1 v1 o2 v2 h1 h2=>nC _ _ _ _ o1 o2 _ v1 v2 _ W rfl (fD t) h1 h2)
     (λW i=>jS t W OA (hM.ext i) (hx.ext i) (he.ext i) (hT.ext i)) (λW i=>nL t W OA)
     λW o1 v1 o2 v2 h1 h2=>qB _ _ _ _ o1 o2 _ v1 v2 _ W rfl (qx t) h1 h2
   .by_cases h0:ZC z y u o S=0
    .rw[YZ h0,h0];exact oU z y u o d A g S W Cj (hC.ext i) (hp.ext i) h0
    .rw[XB h0];exact mq z y u o d A g S W Cj (hC.ext i) h0
  .by_cases h0:Zp a b c m L=0
   .obtain⟨ha,hb,hc',hm,h9,hL⟩:=EA h0;rw[YZ h0,h0];exact kM a b c m f n j L W V M (hM.ext i) (hS.ext i) (hp.ext i) h0 ha.s hb.s hc'.s hm.s λx h=>(hL x h).l
   .rw[XB h0];exact fF a b c m f n j L W V (hM.ext i) (hS.ext i) h0
end Go.Proofs.Tryp
end
namespace Go.Proofs.Tryp
open Go Go.Nk Go.Ns Go.RowKit Go.Conc Go.Proofs Go.Proofs.Tryq
attribute [local instance] theBan
def jv{Q:Obj->Prop}(u:WOk Q){w d:NL}(e:Ext (clean Q w) (clean Q d))(j:Jn Q w d):Below w.heap.size w d:=by
 refine⟨e.os,e.tape,e.output,by have:=e.size;rwa [Oa,Oa]at this,λk i=> ?_⟩;have h:=e.old k (by rw[Oa];exact i);rw[SX,SX]at h;obtain⟨o,m⟩:∃o,w.heap[k]? =I o:=⟨_,YN i⟩;rw[m]at h⊢;rcases j.old k o m with g|⟨_,g,f⟩
 .exact g
 .rw[g]at h⊢;simp only[XN,XM]at h⊢;rw[It f]at h;by_cases n:Rd Q o
  .rw[h,Vh n]
  .rw[Uj n]at h;rw[h]at f;exact(u.coro _ f).elim
def jR(t)(h:Meas W):Meas (retape t W):=h
def iI(t)(h:Deb W):Deb (retape t W):=h
def law3_runs(Am:∀g,g<12->Yv W g=U)(Yr:12<=W.heap.size)(Jp:PW W)(hM:Meas W)(Y:Most W)(hd:Deb W){j:Array NM}(Ba:j.size=3)
 (R9:∀y,Tryz.f3.body=I y->Y0 prog y (KT 6 6 2 (Ext (clean Wob W))) {tmps:=j++Array.replicate (Tryz.f3.ntmps - 3) undef,defers:=[]} (clean Wob W)):
 ∃N n o x M,runNT NX (N+1) (Go.Conc.solo (G (Frame.enter NX 3 j .normal) []) W) #[]=(.ended o x,M)/\runN NX N (Go.Conc.solo (G (Frame.enter NX 3 j .normal) []) W)= .next n/\step NX n= .ended o x/\
  Conc.Good NX (λv x=>v= .bool U/\Below W.heap.size W x) n o x M:=by
 obtain⟨y,O⟩:∃y,Tryz.f3.body=I y:=⟨_,rfl⟩;refine ka (f:=3) (g:=6) (fn:=Tryz.f3) (gn:=Tryz.f6) (c:=y) (r:=6) (m:=2) (E:=Ext (clean Wob W)) (Post:=λv x=>v= .bool U/\Below W.heap.size W x) (wf OB) OB Jp OB O OB (by rw[Ba];exact R9 y O) OB OB OB ?_;intro lf u t hE hj _ hp Cu Cs;have L:=jv Cx.ok hE hj
 have Xd:∀g,g<12->Yv u g=U:=λg F=>by
  obtain⟨c,e,f,h⟩:=Q6.1 (Am g F);exact Q6.2 ⟨c,e,f,(L.block g OA).trans h⟩
 have B:∀{a:NP}{v:NM},W.cell? a=I v->u.cell? a=I v:=λh=>(L.cell (World.block_lt_of_cell? _ _ h)).trans h
 have I8:Meas u:=λi hi=>B (hM i hi)
 have A:Most u:=⟨B Y.m0,B Y.m1⟩;have Xf:Deb u:=λi hi=>B (hd i hi)
 letI:GK:=⟨Yv u,λg F=>Xd g (by have:=SD F;omega)⟩
 have X:∀(t:Nat->Question->Nat)(v:NM)(V:NL),(fun(v:NM)(_:NL)=>v= .bool U) v V->(fun(v:NM)(_:NL)=>v= .bool U) v (retape t V):=λ_ _ _ h=>h
 refine H5 (P:=NX) (fs:=Tryq.fs) (Gs:=Yv u) (f:=6) (tr:=0) (fn:=Tryz.f6) (R:=λv _=>v= .bool U) (k:=2+2) soloK fsOk X OB ((kept_same 6 (by simp[keptList])).trans OB) OB (mP OB) (tmK (by simp[keptList])) (Go.Proofs.Tryv.phase82 (Gl X) [lf] u) (mu rfl (by rw[globals4];omega)) AR.nil (λt=>(mZ (retape t (Zx u)) (jR t (jT I8)) (jB t (eJ A)) (iI t (jb Xf))).mono λe _ he=>⟨_,he.1,rfl⟩) hp Cu ?_;intro v0 v V ρ _ x K hv Bg z e1 e2 e3;have K:v0= .bool U:=K;subst K;obtain rfl:v= .bool U:=by cases hv;rfl
 refine Cs _ x λd=>⟨rfl,?_⟩
 have Dr:Below W.heap.size u x:=⟨e2,e1,e3,z,λk _=>Bg k OA⟩;have:=L.trans Dr;exact⟨this.os,this.tape,this.output,this.size,this.block⟩
open Go.Proofs.YthahddndgbpooaaGreatDoor (Rows.laid_internal_strconv_uint64pow10 Rows.laid_nock_arrow_errForm Rows.laid_errors_errorType)
def pow_of_laid(K:12<=W.heap.size)(h:laidMetH NX laidL W):Pow W:=by
 obtain⟨g,t,_,_,p,u,A,o,y⟩:=IA h (n:= "internal/strconv.uint64pow10") (d:=Rows.laid_internal_strconv_uint64pow10) (by simp[laidL]) OB;obtain rfl:=YT ((show Tryz.prog.globalNamed "internal/strconv.uint64pow10" =I 4 by kernel_rfl).symm.trans u);obtain rfl:=YT ((show(Tryz.prog.globals[4]?).map (·.type)=I 283 by kernel_rfl).symm.trans A);obtain⟨m,e,x⟩:=FE (P:=NX) (t:=283) OB;have f:(match Tryz.prog.underlying 283 with|some (.array n e)=>(match Tryz.prog.underlying e with|some (.int k)=>decide (k= .u64)|_=>ND)&&Tryz.prog.cellsOf e==1&&Tryz.prog.cellsOf 283==n|_=>ND)=U:=OB
 rw[x]at f;simp only[YG,XU]at f;obtain⟨⟨j,z⟩,B⟩:=f;have E:Tryz.prog.underlying e=I (.int .u64):=by
  split at j
  .rename_i k f;rw[f,SD j]
  .cases j
 have F:=Lib.cells_of_tab (k:= .u64) (zs:=Lib.pow10Tab) x E z B y;refine⟨OA,?_⟩;show Lib.TabIs NY W _ _ _;unfold Lib.TabIs;have i:Tryp.prog.globalNamed "internal/strconv.uint64pow10" =I 4:=OB
 unfold World.var? at o⊢;rw[u]at o;rw[i,<-F];exact o
def err_of_laid(h:laidMetH NX laidL W):ErrF W:=by
 obtain⟨g,t,_,_,p,i,x,o,j⟩:=IA h (n:= "nock/arrow.errForm") (d:=Rows.laid_nock_arrow_errForm) (by simp[laidL]) OB;obtain rfl:=YT ((show Tryz.prog.globalNamed "nock/arrow.errForm" =I 3 by kernel_rfl).symm.trans i);obtain rfl:=YT ((show(Tryz.prog.globals[3]?).map (·.type)=I 91 by kernel_rfl).symm.trans x);have f:(match Tryz.prog.underlying 91 with|some (.interface _)=>U|_=>ND)=U:=OB
 obtain⟨e,hi⟩:∃e,Tryz.prog.underlying 91=I (.interface e):=by
  split at f
  .exact⟨_,by assumption⟩
  .cases f
 obtain⟨_,u,v,m,_,_⟩:=iface_of_trod hi j;exact⟨u,v,by rw[World.var?_cell i o 0];rw[<-Array.getElem?_toList,m];rfl⟩
def et_of_laid(h:laidMetH NX laidL W):ErT W:=by
 obtain⟨n,u,x,j,f,o,g,m⟩:=(laidMetH_iff.1 h).2 ("errors.errorType",Rows.laid_errors_errorType) (by unfold laidL;exact UO.2 ⟨YQ (i:=4) rfl,rfl⟩);obtain rfl:=YT ((show(Rows.laid_errors_errorType (H:=Unit)).handleName? =I [101,114,114,111,114] by kernel_rfl).symm.trans j);obtain rfl:=YT ((show(Tryz.prog.cutTypes.find? (·.1== "internal/reflectlite.rtype")).map (·.2)=I 220 by kernel_rfl).symm.trans f);have e:(List.range Tryz.prog.types.size).filter (Tryz.prog.rowNamed · [101,114,114,111,114])=[91]:=OB
 have d:x∈(List.range Tryz.prog.types.size).filter (Tryz.prog.rowNamed · [101,114,114,111,114]):=UO.2 ⟨YU.2 o,g⟩;rw[e]at d;obtain rfl:=XP.1 d;show W.cell? ⟨0,0,NB⟩=_;rw[World.var?_cell (show Tryz.prog.globalNamed "errors.errorType" =I 0 by kernel_rfl) m 0]
 kernel_rfl
def max_of_shape(h:W.ShapedOpen NX):MaxL W:=by
 obtain⟨e,n,f,i⟩:=h.1 7 #[.int J 0] 3 (by rw[globals4];decide) OB;obtain⟨_,j,_,g⟩:=i OB;obtain rfl:=YT ((show Tryz.prog.cellTypes Tryz.prog.depth 3=I [3] by kernel_rfl).symm.trans j);obtain⟨u,m,d⟩:=g 0 (e[0]'(by rw[f];decide)) OD;obtain rfl:3=u:=by simpa using m
 unfold Cell.ok at d;rw[under3]at d;generalize hx:e[0]'(by rw[f];decide)=x at d;cases x<;>first|exact d.elim|skip
 obtain⟨rfl,_⟩:=d;exact⟨_,by rw[Z0 n,<-hx];simp⟩
def pw_of_rows(h:∀g,g<12->Yv W g=U):PW W:=by
 intro b c e i;by_cases j:b<12
 .obtain⟨_,_,_,h1⟩:=Q6.1 (h b j);rw[h1]at i;cases i
 .show(NY).stepOf b=NB;have m:(Tryp.prog.funcs.all λf=>(f.body.map readies).all λl=>l.all λg=>decide (g<12))=U:=OB
  unfold Program.stepOf;rw[Array.findIdx?_eq_none_iff];intro f n;have d:=Array.all_eq_true_iff_forall_mem.1 m f n;cases hz:f.body.map readies with
  |none=>rfl
  |some l=>
   rw[hz]at d;simp only[Option.all_some,YL,XE]at d;simp only[Option.any_some];exact Bool.eq_false_iff.2 λo=>j (d b (VS.1 o))
end Go.Proofs.Tryp
section
namespace Go.Proofs.YthahddndgbpooaaGreatDoor
open Go
namespace JarrowTexts
def k0:Rows.arrowTextsRow.wf (OpenSpec.ofChange Rows.arrowTextsSpec)=U:=OB
def k1:laidOutB NX=U:=OB
def k2:mapsRowed NX=U:=OB
def k3:Tryz.f3.params.all (Tryz.prog.readableRec ·)=U:=OB
def k4:namedTie NX Rows.arrowTextsRow.named Rows.arrowTextsSpec.vars=U:=OB
def k5:(Rows.arrowTextsRow.stops==[])=U:=OB
def k6:(Tryz.prog.stops==[])=U:=OB
def k7:(Rows.arrowTextsRow.knobs==[])=U:=OB
def k8:(Tryz.prog.stopKnobs==[])=U:=OB
def k9:(Rows.arrowTextsRow.inPlace==Tryz.prog.inPlace 3)=U:=OB
def k10:(Rows.arrowTextsRow.unfollowed==Tryz.prog.unfollowed 3)=U:=OB
def k11:(Rows.arrowTextsRow.recurses==Tryz.prog.recurses 3)=U:=OB
def k12:(Rows.arrowTextsRow.named==Tryz.prog.varsNamed 3)=U:=OB
def k13:(Rows.arrowTextsRow.maps==(Tryz.f3.params.toList++Rows.arrowTextsSpec.plain.varTypes NX).any (Tryz.prog.mapsRec ·))=U:=OB
def k14:(Rows.arrowTextsRow.ifaces==(Tryz.f3.params.toList++Rows.arrowTextsSpec.plain.varTypes NX).any (Tryz.prog.ifacesRec ·))=U:=OB
def k15:(Rows.arrowTextsRow.mapsOut==Tryz.prog.mapsAmong Tryz.f3.resultTypes.toList)=U:=OB
def k16:(Rows.arrowTextsRow.loops==(Tryz.f3.params.toList++Rows.arrowTextsSpec.plain.varTypes NX).any (Tryz.prog.loopsFrom ·))=U:=OB
def k17:(Rows.arrowTextsRow.wideKeys==(Tryz.f3.params.toList++Rows.arrowTextsSpec.plain.varTypes NX++Tryz.f3.resultTypes.toList).any (Tryz.prog.wideKeysFrom ·))=U:=OB
def k18:Rows.arrowTextsSpec.vars.all (Tryz.prog.varReadable ·)=U:=OB
def k19:Tryz.f3.resultTypes.all (λt=>Tryz.prog.readableRec t&&decide (t<Tryz.prog.types.size))=U:=OB
def k20:(Rows.arrowTextsRow.ifacesOut==Tryz.f3.resultTypes.toList.any (Tryz.prog.ifacesRec ·))=U:=OB
def k21:(Rows.arrowTextsRow.loopsOut==Tryz.f3.resultTypes.toList.any (Tryz.prog.loopsFrom ·))=U:=OB
def k22:(Rows.arrowTextsRow.plainKeys==Tryz.prog.plainKeys)=U:=OB
def k23:Rows.arrowTextsRow.shortTexts.isNone=U:=OB
def k24:Tryz.prog.stopsHeard=U:=OB
def k25:Tryz.prog.mayEnter=U:=OB
def k26:(Rows.arrowTextsRow.lifted==Tryz.prog.liftsFinal)=U:=OB
def k27:(Tryz.prog.make==I Rows.arrowTextsRow.make)=U:=OB
def k28:(Rows.arrowTextsRow.kinds==(if Rows.arrowTextsRow.domain.isEmpty then[]else Tryz.f3.params.toList.map λt=>match Tryz.prog.underlying t with|some (.int k)=>I k|_=>NB))=U:=OB
def k29:(Rows.arrowTextsRow.pinned==Rows.arrowTextsRow.pinnedBy)=U:=OB
def k30:(Rows.arrowTextsRow.veiled==(Tryz.f3.params.toList++Rows.arrowTextsSpec.plain.varTypes NX++Tryz.f3.resultTypes.toList).any (Tryz.prog.veiledRec ·))=U:=OB
def k31:Rows.arrowTextsRow.veiledFits NX Tryz.f3.params.toList (Tryz.f3.params.toList++Rows.arrowTextsSpec.plain.varTypes NX++Tryz.f3.resultTypes.toList)=U:=OB
def ZI{a b:Bool}(d:a=U)(e:b=U):(a&&b)=U:=by rw[d,e];rfl
def facts:joinedFacts NX 3 Tryz.f3 Rows.arrowTextsSpec Rows.arrowTextsRow=U:=(ZI (ZI (ZI (ZI (ZI (ZI (ZI (ZI (ZI (ZI (ZI (ZI (ZI (ZI (ZI (ZI (ZI (ZI (ZI (ZI (ZI (ZI (ZI (ZI (ZI (ZI (ZI (ZI (ZI (ZI (ZI k0 k1) k2) k3) k4) k5) k6) k7) k8) k9) k10) k11) k12) k13) k14) k15) k16) k17) k18) k19) k20) k21) k22) k23) k24) k25) k26) k27) k28) k29) k30) k31)
end JarrowTexts
end Go.Proofs.YthahddndgbpooaaGreatDoor
end
namespace Go.Proofs.Tryq
open Go Go.Nk Go.RowKit Go.ChangeShapes Go.WideShapes Go.ChangeAt Go.Conc Go.Deep
attribute [local instance] theBan
section
variable {H:Type}{enc:TypeId×NM->H}
def under68:Tryz.prog.underlying 29=I (.slice 75):=OB
def cells80:Tryz.prog.cellsOf 75=5:=OB
def cells70:Tryz.prog.cellsOf 31=5:=OB
def fZ{x:DataW H×List MemPlace}(hv:∃u,Cell.okWide NX W .any b0 u v)(h:DataW.trod enc NX W 0 (λ_=>U) U k 29 [v]=I x):
 ∃(d:Option NP)(n f:Nat)(S:List Rs),v= .slice d n f/\S.length=n/\n<=f/\f<=maxLen/\VRel id (Nk.Live (Zx W)) v v/\RawS W d S/\∀s∈S,(Lit.int J s.a).wf=U/\(Lit.int J s.m).wf=U/\(Lit.int J s.M).wf=U/\(Lit.int J s.wi).wf=U/\(Lit.int J s.li).wf=U:=by
 obtain⟨d,n,f,e,hn,hm,hr,S2⟩:=dc under68 cells80 OC hv h;have A:∀i,i<n->∃s:Rs,(∃b g,d=I ⟨b,g,NB⟩/\b<W.heap.size/\ShotAt W b (g+i*5) s.a s.m s.M s.wi s.li)/\((Lit.int J s.a).wf=U/\(Lit.int J s.m).wf=U/\(Lit.int J s.M).wf=U/\(Lit.int J s.wi).wf=U/\(Lit.int J s.li).wf=U):=by
  intro i hi;obtain⟨b,g,h1,O,cs,_,j,y⟩:=S2 i hi;have z:cs.length<=Tryz.prog.cellsOf 75:=by rw[cells80];omega
  obtain⟨x0,F,w0⟩:=Xg (n:=3) (o:=0) (u:=3) z y OB under3;obtain⟨x1,e1,K⟩:=Xg (n:=3) (o:=1) (u:=3) z y OB under3;obtain⟨x2,e2,w2⟩:=Xg (n:=3) (o:=2) (u:=3) z y OB under3;obtain⟨Y,e3,X⟩:=Xg (n:=3) (o:=3) (u:=3) z y OB under3;obtain⟨V,e4,E⟩:=Xg (n:=3) (o:=4) (u:=3) z y OB under3;exact⟨⟨x0,x1,x2,Y,V⟩,⟨b,g,h1,O,⟨(j 0 OA).trans F,(j 1 OA).trans e1,(j 2 OA).trans e2,(j 3 OA).trans e3,(j 4 OA).trans e4⟩⟩,w0,K,w2,X,E⟩
 obtain⟨L,Cn,B⟩:=dy n A;exact⟨d,n,f,L,e,Cn,hn,hm,hr,λi x hx=>(B i x hx).1,λs hs=>by obtain⟨i,hi⟩:=List.mem_iff_getElem?.1 hs;exact(B i s hi).2⟩
theorem open_card{d:DataW H}{p:List MemPlace}(hv:Value.okWide NX W .any b0 31 v)(h:DataW.Trod enc NX W 0 (λ_=>U) U 31 v d p):
 ∃(E B L A:Int)(e:Option NP)(n f:Nat)(S:List Rs),v= .agg #[E,B,L,A,.slice e n f]/\S.length=n/\n<=f/\f<=maxLen/\VRel id (Nk.Live (Zx W)) v v/\RawS W e S/\
  ((Lit.int J E).wf=U/\(Lit.int J B).wf=U/\(Lit.int J L).wf=U/\(Lit.int J A).wf=U)/\∀s∈S,(Lit.int J s.a).wf=U/\(Lit.int J s.m).wf=U/\(Lit.int J s.M).wf=U/\(Lit.int J s.wi).wf=U/\(Lit.int J s.li).wf=U:=by
 obtain⟨F,rfl,z,hx⟩:=bh hv OB;obtain⟨i,g⟩:=h;have g:DataW.trod enc NX W 0 (λ_=>U) U i 31 F.toList=I (d,p):=g;rw[cells70]at z;have j:F.toList.length<=Tryz.prog.cellsOf 31:=by rw[cells70];simp[z]
 obtain⟨x0,V,w0⟩:=Xg (n:=2) (o:=0) (u:=3) j ⟨_,_,g⟩ OB under3;obtain⟨x1,e1,O⟩:=Xg (n:=2) (o:=1) (u:=3) j ⟨_,_,g⟩ OB under3;obtain⟨x2,e2,w2⟩:=Xg (n:=2) (o:=2) (u:=3) j ⟨_,_,g⟩ OB under3;obtain⟨x,e3,X⟩:=Xg (n:=2) (o:=3) (u:=3) j ⟨_,_,g⟩ OB under3;obtain⟨sv,m,y,e4,Y⟩:=ci (n:=2) (o:=4) (u:=29) j ⟨_,_,g⟩ OB under68;obtain⟨e,n,f,S,rfl,hL,hn,hm,hr,hR,hw⟩:=fZ (hx 4 sv (by simpa using e4)) Y;have Ql:=arr5 z V e1 e2 e3 e4;subst Ql
 have K:AR id (Nk.Live (Zx W)) #[x0,x1,x2,x,.slice e n f] #[x0,x1,x2,x,.slice e n f]:=
  ((((AR.nil.push (.int _ _)).push (.int _ _)).push (.int _ _)).push (.int _ _)).push hr
 exact⟨x0,x1,x2,x,e,n,f,S,rfl,hL,hn,hm,.agg K.1 K.2,hR,⟨w0,O,w2,X⟩,hw⟩
end
end Go.Proofs.Tryq
namespace Go.Proofs.YthahddndgbpooaaGreatDoor
open Go Go.Nk Go.Ns Go.RowKit Go.ChangeShapes Go.WideShapes Go.ChangeAt Go.Conc
open Go.Proofs.Tryq
attribute [local instance] theBan
section
def cl{a:NP}(h:W.cell? a=I v):(clean Wob W).cell? a=I v:=(HX (W:=Wob) Cx.ok W a).trans h
def pE{d:Option NP}{L:List Sf}(h:RawA W d L):RawA (clean Wob W) d L:=λi x hi=>by
 obtain⟨b,f,m,g,e,j⟩:=h i x hi;exact⟨b,f,m,by rw[Oa];exact g,⟨cl e.k0,cl e.k1,cl e.k2,cl e.k3,cl e.k4,cl e.k5,cl e.k6⟩,j⟩
def iL{d:Option NP}{S:List Rs}(h:RawS W d S):RawS (clean Wob W) d S:=λi x hi=>by
 obtain⟨b,f,j,g,e⟩:=h i x hi;exact⟨b,f,j,by rw[Oa];exact g,⟨cl e.c0,cl e.c1,cl e.c2,cl e.c3,cl e.c4⟩⟩
def jf(h:Meas W):Meas (clean Wob W):=λi hi=>cl (h i hi)
def eX(h:Tryp.MaxL W):Tryp.MaxL (clean Wob W):=by obtain⟨m,h⟩:=h;exact⟨m,cl h⟩
def gH(h:Tryp.ErrF W):Tryp.ErrF (clean Wob W):=by obtain⟨t,v,h⟩:=h;exact⟨t,v,cl h⟩
def kR(h:Tryp.ErT W):Tryp.ErT (clean Wob W):=cl h
def gd(i:Yv W 4=U)(h:Tryp.Pow W):Tryp.Pow (clean Wob W):=⟨by rw[Oa];exact h.lt,by
 have d:=h.tab;unfold Lib.TabIs World.var? at d⊢;have j:Tryp.prog.globalNamed "internal/strconv.uint64pow10" =I 4:=OB
 rw[j]at d⊢;simp only[SK]at d⊢;obtain⟨c,e,f,g⟩:=Q6.1 i;rw[SX,g,XN,DJ (W:=Wob) Cx.ok];rw[g]at d;exact d⟩
end
def rj(os:Os)(e:os.Started)(H:Type)(enc:TypeId×NM->H):
 ReturnsInLeavingWide {} Tryz.checked os 3 .any (λw d=>(Rows.arrowTextsSpec.pre enc NX Tryz.f3 [] ND w d/\laidMetH NX laidL w)/\sizedMet enc NX Tryz.f3 (OpenSpec.ofChange Rows.arrowTextsSpec) ND w d)
  (Rows.arrowTextsSpec.post enc NX Tryz.f3 ND U ND ND):=by
 refine gJ (n:=3) (ts:=[9,26,31]) e Tryz.func3 (by rw[Tryz.params3]) rfl rfl OB (λo y=>by
  match o,y with
  |[_,_,_],_=>rfl) OB
  (ChangeSpec.witness_shaped (enc:=enc) (C:=Tryz.checked) (os:=os) (X:=λw _=>laidMetH NX laidL w) ND (JF os) #[.string .empty,.agg OG,.agg OG] 8 rfl (p6 os _) OB OB OB (oa os _)) ?_
 intro W _ d o p g M f i u Cc;rw[Tryz.params3]at g;obtain⟨x,v0,L,dt,_,_,_,_,_,rfl,rfl,rfl,_,B,F⟩:=trodAll_three M;obtain⟨t,rfl⟩:∃t:List UInt8,x=Tryp.str t:=by
  obtain⟨s,rfl⟩:=okWide_string (show Tryz.prog.underlying 9=I .string by kernel_rfl) (g 0 9 x rfl rfl);exact⟨s.data.toList,rfl⟩
 obtain⟨a0,b0,c0,d0,j,O,k0,A,rfl,Fy,_,_,Fk,E,_⟩:=kq (g 1 26 v0 rfl rfl) B;obtain⟨a1,z,V,K,h,n1,k1,S1,rfl,Y,_,_,_,Bi,Fm⟩:=open_card (g 2 31 L rfl rfl) F;have m:=ki f
 exact Tryp.law3_runs i u (Tryp.pw_of_rows i) m (rc f) (od f) rfl λcd Ea=>
  Tryp.texts_hits a0 b0 c0 d0 a1 z V K j h O k0 n1 k1 A S1 t (clean Wob W) Fy Y (jf m) (gd (i 4 OC) (Tryp.pow_of_laid u f)) (eX (Tryp.max_of_shape Cc)) (gH (Tryp.err_of_laid f)) (kR (Tryp.et_of_laid f)) (pE E) (iL Bi) cd Ea
theorem arrowTexts_row:Rows.ArrowTextsSaid:=
 OpenClaim.holds_of_wide_leaving 3 Tryz.f3 rfl rfl rfl rfl rfl rfl rfl ⟨rfl,rfl,rfl,rfl,rfl⟩ rfl rfl rfl rfl rfl OB Tryz.func3 JarrowTexts.facts
  (SD OB) (by unfold Func.isWrapper;first|rw[YZ (by decide+kernel)];kernel_rfl|rw[XB (by decide+kernel)];exact⟨rfl,rfl⟩)
  (λe d H enc _=>rj e d H enc)
theorem arrowTexts_card:Rows.ArrowTextsCardSaid:=
 oV .later [.data,.data,.data,.data,.handle,.sentinel,.sentinel,.data,.funcs,.sentinel,.pinned] U (U,"0da3e65f66aa73cdfcf1444b1f86cc6896551a7d24507d09c3f5bae850b9b7d4") U
  arrowTexts_row OB arrowTexts_row_tie rfl ⟨rfl,rfl⟩ OB rfl
  (λf m i d=>by
    obtain rfl:f=3:=YT ((show Tryz.prog.funcNamed "nock/nocklaw01.ArrowTexts" =I 3 by kernel_rfl).symm.trans i) |>.symm
    obtain rfl:m=Tryz.f3:=(YT (Tryz.func3.symm.trans d)).symm
    exact⟨OB,λj t e=>by
     rw[Tryz.params3]at e;have h:t∈[9,26,31]:=(by simpa using Array.mem_of_getElem? e);have g:([9,26,31].all λu=> !Tryz.prog.wantsStandIn u)=U:=OB;exact(show Tryz.prog.wantsStandIn t=ND by simpa using YL.1 g t h)⟩)
  OB
end Go.Proofs.YthahddndgbpooaaGreatDoor
