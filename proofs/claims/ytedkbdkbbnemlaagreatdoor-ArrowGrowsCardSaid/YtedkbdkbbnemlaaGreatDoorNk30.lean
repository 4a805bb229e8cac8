/- nocklaw01.ArrowGrows: for every card, any two distances, any shot and any number the call returns true, on every schedule and without a data race; its arguments read afterwards as they read before; nothing that was in memory is changed; at the return no other goroutine does more than leave. The card ties the four listed package variables to the program's text. Conditions: none beyond the card's own (the listed variables hold what the program's text lays). The texts of this claim were shortened by program (no remarks, short names) to fit the bounds on a claim's size; their long form lies in the repository's folder wip. -/
import Derived.Test.YtedkbdkbbnemlaaGreatDoorNk29
import Derived.Carry
import Derived.JoinedOf
import Derived.KernelRfl
import Derived.Test.YtedkbdkbbnemlaaGreatDoorRows
set_option linter.all false
namespace Go.Proofs.Tryq
set_option maxRecDepth 100000
set_option maxHeartbeats 8000000
open Go Go.Nk Go.RowKit
set_option linter.all false
theorem ZiN(r0 r1 r2 r3:Int)(base:Option Addr)(n cap:Nat)(u1 u2 xa xm xM xw xl wh:Int)(w:World)
 (Db:∀W,Ext w W->Calls prog 42 #[.agg #[.int .i64 r0,.int .i64 r1,.int .i64 r2,.int .i64 r3,.slice base n cap]] W fun e w'=>e= .returned (.bool true)/\Ext W w')
 (Bu:∀W,Ext w W->Calls prog 44 #[.int .i64 n] W fun e w'=>∃x,e= .returned x/\(∃ao cp,x= .slice ao n cp/\RawI w' ao (upL n)/\n<=cp)/\Ext W w')
 (Bn:∀W ao cp,Ext w W->RawI W ao (upL n)->n<=cp->Calls prog 43 #[.agg #[.int .i64 r0,.int .i64 r1,.int .i64 r2,.int .i64 r3,.slice base n cap],.slice ao n cp] W fun e w'=>e= .returned (.bool true)/\Ext W w')
 (Jw:((n:Int)==0)=false)(D0:n<=8)(hn1:1<=n)(hu1:0<=u1/\u1<256)(X4:0<=u2/\u2<256)(hwh:0<=wh/\wh<256)(d e la ha le he p0 p1:Int)
 (G5:Hid (d=min (min u1 u2 % 91) (max u1 u2 % 91)))(Ho:Hid (e=max (min u1 u2 % 91) (max u1 u2 % 91)))
 (D2:(e - d)*r0=p0)(Gv:(e - d)*r1=p1)(N6:0<=p0/\p0<=99999/\0<=p1/\p1<=99999)(Wj: -1000000<=la/\la<=ha/\ha<=1000000/\-1000000<=le/\le<=he/\he<=1000000)
 (Nr:p0<=le - la/\le - la<=p1/\p0<=he - ha/\he - ha<=p1)
 (S:List Rs)(A1:Hid (S.length=n))(hS:Hid (RawS w base S))(hwi:Hid (∀s∈S,0<=s.wi/\s.wi<=9))
 (Tv:∀W,Ext w W->Calls prog 45 #[.agg #[.int .i64 r0,.int .i64 r1,.int .i64 r2,.int .i64 r3,.slice base n cap],.int .i64 d] W fun e w'=>e= .returned (.tuple #[.agg #[.int .i64 la,.int .i64 ha],.int .i64 0])/\Ext W w')
 (Tw:∀W,Ext w W->Calls prog 45 #[.agg #[.int .i64 r0,.int .i64 r1,.int .i64 r2,.int .i64 r3,.slice base n cap],.int .i64 e] W fun e w'=>e= .returned (.tuple #[.agg #[.int .i64 le,.int .i64 he],.int .i64 0])/\Ext W w')
 (Qs:∀W mb mc,Ext w W->RawS W mb (S++[⟨xa,xm,xM,xw,xl⟩])->Calls prog 50 #[.agg #[.int .i64 r0,.int .i64 r1,.int .i64 r2,.int .i64 r3,.slice mb (n+1) mc],.int .i64 d,.agg #[.int .i64 la,.int .i64 ha]] W fun e w'=>e= .returned (.bool true)/\Ext W w')
 (Hw:∀(k:Nat)(s:Rs),S[k]? =some s->∀W mb mc,Ext w W->RawS W mb (S.set k (ZiL s))->Calls prog 50 #[.agg #[.int .i64 r0,.int .i64 r1,.int .i64 r2,.int .i64 r3,.slice mb n mc],.int .i64 d,.agg #[.int .i64 la,.int .i64 ha]] W fun e w'=>e= .returned (.bool true)/\Ext W w')
 (B6:∀W,Ext w W->Calls prog 22 #[] W fun e w'=>e= .returned (.bool true)/\Ext W w'):
 Calls prog 9 #[.agg #[.int .i64 r0,.int .i64 r1,.int .i64 r2,.int .i64 r3,.slice base n cap],.int .u8 u1,.int .u8 u2,.agg #[.int .i64 xa,.int .i64 xm,.int .i64 xM,.int .i64 xw,.int .i64 xl],.int .u8 wh] w fun e w'=>e= .returned (.bool true):=by
 go_enter func9,ntmps9;go_wp2_with fail;have Ab:=((Ext.rfl' w).alloc (.cells #[.int .i64 r0,.int .i64 r1,.int .i64 r2,.int .i64 r3,.slice base n cap] 70)).alloc (.cells #[.int .i64 xa,.int .i64 xm,.int .i64 xM,.int .i64 xw,.int .i64 xl] 80);have hr:((w.alloc (.cells #[.int .i64 r0,.int .i64 r1,.int .i64 r2,.int .i64 r3,.slice base n cap] 70)).alloc (.cells #[.int .i64 xa,.int .i64 xm,.int .i64 xM,.int .i64 xw,.int .i64 xl] 80)).heap[w.heap.size]? =some (.cells #[.int .i64 r0,.int .i64 r1,.int .i64 r2,.int .i64 r3,.slice base n cap] 70):=by simp only[Z3,Z2];rw[if_neg (by omega),if_pos trivial]
 have hx:((w.alloc (.cells #[.int .i64 r0,.int .i64 r1,.int .i64 r2,.int .i64 r3,.slice base n cap] 70)).alloc (.cells #[.int .i64 xa,.int .i64 xm,.int .i64 xM,.int .i64 xw,.int .i64 xl] 80)).heap[w.heap.size+1]? =some (.cells #[.int .i64 xa,.int .i64 xm,.int .i64 xM,.int .i64 xw,.int .i64 xl] 80):=by simp only[Z3,Z2];rw[if_pos trivial]
 generalize World.alloc _ _=w1 at Ab hr hx⊢;obtain⟨q0,q1,q2,q3,q4⟩:=Zgj hr;have g0:=Zet q0;have g1:=Zet q1;have g2:=Zet q2;have g3:=Zet q3;have g4:=Zet q4;refine ZeG 18 (by kernel_rfl) ?_;refine ZeB [0] (by kernel_rfl) (by kernel_rfl) ?_;simp only[ZeD,List.getElem?_cons_succ,List.getElem?_cons_zero,List.cons_append,List.nil_append]
 repeat (go_big_quiet_step (fail))
 refine wpQuiet_nil ?_;refine ZeX 1 (f:=42) (args:= #[.agg #[.int .i64 r0,.int .i64 r1,.int .i64 r2,.int .i64 r3,.slice base n cap]]) (v:= .bool true) (by kernel_rfl) rfl (by kernel_rfl) rfl (fun W=>by simp[go_sem,execOp,Act.eval]) (fun W hW=>Db W (Ab.trans hW)) ?_;go_simp;refine ZeB [2,3,4,5,6,7] (by kernel_rfl) (by kernel_rfl) ?_;simp only[ZeD,List.getElem?_cons_succ,List.getElem?_cons_zero,List.cons_append,List.nil_append]
 repeat (go_big_quiet_step (fail))
 refine wpQuiet_nil ?_;refine Zfa 8 rfl (by kernel_rfl) rfl (fun W hW=>Zfo (f:=44) (args:= #[.int .i64 n]) (by simp[go_sem,execOp,Act.eval]) ?_);refine(Bu W (Ab.trans hW)).mono ?_;rintro e W2 ⟨x,rfl,Md,Ah⟩;obtain⟨ao,cp,rfl,hI,Ef⟩:=Md;refine⟨.slice ao n cp,rfl,Ah,?_⟩;have Aw:=hW.trans Ah;clear Ah hW;clear W;clear g0 g1 g2 g3 g4 q0 q1 q2 q3 q4;replace hr:=Aw.get hr;replace hx:=Aw.get hx;obtain⟨q0,q1,q2,q3,q4⟩:=Zgj hr;have g0:=Zet q0;have g1:=Zet q1;have g2:=Zet q2;have g3:=Zet q3;have g4:=Zet q4;go_simp;refine ZeX 9 (f:=43) (args:= #[.agg #[.int .i64 r0,.int .i64 r1,.int .i64 r2,.int .i64 r3,.slice base n cap],.slice ao n cp]) (v:= .bool true) (by kernel_rfl) rfl (by kernel_rfl) rfl (fun W=>by simp[go_sem,execOp,Act.eval]) (fun W hW=>Bn W ao cp (Ab.trans (Aw.trans hW)) (hI.ext hW) Ef) ?_;go_simp;refine ZeB [10,11,12,13,14,15,16,17] (by kernel_rfl) (by kernel_rfl) ?_;simp only[ZeD,List.getElem?_cons_succ,List.getElem?_cons_zero,List.cons_append,List.nil_append]
 repeat (go_big_quiet_step (fail))
 refine wpQuiet_nil ?_;refine Zf6 (by kernel_rfl) (fun W hW=> ?_);have A7:=Ab.trans (Aw.trans hW);replace hr:=hW.get hr;replace hx:=hW.get hx;clear q0 q1 q2 q3 q4 g0 g1 g2 g3 g4 Db Bu Bn hI Ef Ab Aw hW;obtain⟨q0,q1,q2,q3,q4⟩:=Zgj hr;have hl:=Z5 hr;have Lp:=Z5 hx;obtain⟨a1,D7⟩:∃z,(if u2<u1 then u2 else u1)=z:=⟨_,rfl⟩;obtain⟨a2,Ms⟩:∃z,(if u1<u2 then u2 else u1)=z:=⟨_,rfl⟩;obtain⟨b1,Lr⟩:∃z,a1 % 91=z:=⟨_,rfl⟩;obtain⟨b2,T6⟩:∃z,a2 % 91=z:=⟨_,rfl⟩;have Cl:0<=d/\d<=e/\e<=90:=by have h1:=G5.out;have h2:=Ho.out;omega
 have U5:(if b2<b1 then b2 else b1)=d:=by
  have h1:=G5.out;split at D7<;>split at Ms<;>split<;>omega
 have Ig:(if b1<b2 then b2 else b1)=e:=by
  have h1:=Ho.out;split at D7<;>split at Ms<;>split<;>omega
 have H8:0<=a1/\a1<256:=by split at D7<;>omega
 have R6:0<=a2/\a2<256:=by split at Ms<;>omega
 clear G5 Ho
 go_wp2_with (first
  |(go_at_call 45;(with_reducible refine(Tv _ A7).mono ?_);rintro e9 w3 ⟨rfl,hF⟩;replace A7:=A7.trans hF;replace hr:=hF.get hr;replace hx:=hF.get hx;clear hF q0 q1 q2 q3 q4 hl Lp;have hl:=Z5 hr;have Lp:=Z5 hx;have E6:=Z5 hx;obtain⟨q0,q1,q2,q3,q4⟩:=Zgj hr)
  |(go_at_call 45;(with_reducible refine(Tw _ (A7.alloc _)).mono ?_);rintro e9 w5 ⟨rfl,hF⟩;have hA:=hF.get (b:=w3.heap.size) (o:= .cells #[.int .i64 la,.int .i64 ha] 48) ((Z3 _ _ _).trans (if_pos rfl));replace hr:=hF.get (((Ext.rfl' _).alloc _).get hr);replace hx:=hF.get (((Ext.rfl' _).alloc _).get hx);replace A7:=(A7.alloc _).trans hF;clear hF q0 q1 q2 q3 q4 hl Lp;have hl:=Z5 hr;have Lp:=Z5 hx;have hlA:=Z5 hA;obtain⟨q0,q1,q2,q3,q4⟩:=Zgj hr;have y:=Zc hA;have y0:=y.1;have y1:=y.2.1;clear y))
 replace A7:=A7.alloc (.cells #[.int .i64 le,.int .i64 he] 48);replace hr:=((Ext.rfl' w5).alloc (.cells #[.int .i64 le,.int .i64 he] 48)).get hr;replace hx:=((Ext.rfl' w5).alloc (.cells #[.int .i64 le,.int .i64 he] 48)).get hx;replace hA:=((Ext.rfl' w5).alloc (.cells #[.int .i64 le,.int .i64 he] 48)).get hA;clear q0 q1 q2 q3 q4 y0 y1 hl Lp hlA Tv Tw Nr Wj D2 Gv N6 D7 Ms Lr T6 U5 Ig;generalize w5.heap.size=bB;generalize w3.heap.size=bA at E6 hA⊢;generalize World.alloc w5 _=W9 at A7 hr hx hA⊢;clear w5;obtain⟨q0,q1,q2,q3,q4⟩:=Zgj hr;refine Zia (T:=Nat×Nat) (fun x=>[(129,.agg #[.int .i64 r0,.int .i64 r1,.int .i64 r2,.int .i64 r3,.slice base n cap]),(130,.agg #[.int .i64 r0,.int .i64 r1,.int .i64 r2,.int .i64 r3,.slice base n cap]),(18,.pointer (some ⟨x.1,0,none⟩)),(19,.pointer (some ⟨x.2,0,none⟩))]) (fun x W=>Ext W9 W/\x.1≠x.2/\W9.heap.size<=x.1/\W9.heap.size<=x.2/\W.heap[x.1]? =some (.cells #[.int .i64 r0,.int .i64 r1,.int .i64 r2,.int .i64 r3,.slice base n cap] 70)/\W.heap[x.2]? =some (.cells #[.int .i64 r0,.int .i64 r1,.int .i64 r2,.int .i64 r3,.slice base n cap] 70)) ?_ ?_
 ·refine Zhk (ExtX fun b=>W9.heap.size<=b) (by kernel_rfl) ?_;have hD:=(Ext.rfl' W9).drew;have H6:=hD.get hr;have Lf:¬W9.heap.size<=w.heap.size:=by have:=Z5 hr;omega
  have Tx:W9.heap.size<=W9.drew.heap.size:=Nat.le_refl _;obtain⟨N,hN⟩:∃z,z=W9.heap.size:=⟨_,rfl⟩;rw[<-hN] at Lf Tx;rw[<-hN];replace hN:W9.heap.size<=N/\N<=W9.heap.size:=by omega
  obtain⟨q0,q1,q2,q3,q4⟩:=Zgj H6;generalize W9.drew=Wd at hD H6 Tx q0 q1 q2 q3 q4⊢;have g0:=GrE.cell (X:=fun b=>N<=b) Lf q0;have g1:=GrE.cell (X:=fun b=>N<=b) Lf q1;have g2:=GrE.cell (X:=fun b=>N<=b) Lf q2;have g3:=GrE.cell (X:=fun b=>N<=b) Lf q3;have g4:=GrE.cell (X:=fun b=>N<=b) Lf q4;refine Zh8 (ExtX.pre _) [0,1] (by kernel_rfl) (by kernel_rfl) ?_;simp only[ZeD,List.getElem?_cons_succ,List.getElem?_cons_zero,List.cons_append,List.nil_append]
  repeat (go_big_quiet_step (fail))
  refine wpQuiet_nil ?_;clear q0 q1 q2 q3 q4 g0 g1 g2 g3 g4;refine Zir 2 3 rfl rfl (by kernel_rfl) rfl rfl ?_ ?_
  ·refine Zf3 ⟨.pointer (some ⟨Wd.heap.size,0,none⟩),Wd.alloc (.cells #[.int .i64 0,.int .i64 0,.int .i64 0,.int .i64 0,.slice none 0 0] 70),by simp[go_sem,execOp,Act.eval],Go.Nk.Ext.toX ((Ext.rfl' _).alloc _) _,?_⟩;go_simp;have Bz:(Wd.alloc (.cells #[.int .i64 0,.int .i64 0,.int .i64 0,.int .i64 0,.slice none 0 0] 70)).heap[Wd.heap.size]? =some (.cells #[.int .i64 0,.int .i64 0,.int .i64 0,.int .i64 0,.slice none 0 0] 70):=by rw[Z3,if_pos rfl]
   have eWa:=(Ext.rfl' Wd).alloc (.cells #[.int .i64 0,.int .i64 0,.int .i64 0,.int .i64 0,.slice none 0 0] 70);have lb18:=Z5 Bz;obtain⟨b18,zb18⟩:∃z,z=Wd.heap.size:=⟨_,rfl⟩;rw[<-zb18] at Bz lb18;rw[<-zb18];replace zb18:Wd.heap.size<=b18/\b18<=Wd.heap.size:=by omega
   generalize World.alloc Wd _=Wa at Bz eWa lb18⊢;refine Zh4 3 rfl (by kernel_rfl) rfl ?_;refine Zf3 ⟨.pointer (some ⟨Wa.heap.size,0,none⟩),Wa.alloc (.cells #[.int .i64 0,.int .i64 0,.int .i64 0,.int .i64 0,.slice none 0 0] 70),by simp[go_sem,execOp,Act.eval],Go.Nk.Ext.toX ((Ext.rfl' _).alloc _) _,?_⟩;go_simp;have B9:(Wa.alloc (.cells #[.int .i64 0,.int .i64 0,.int .i64 0,.int .i64 0,.slice none 0 0] 70)).heap[Wa.heap.size]? =some (.cells #[.int .i64 0,.int .i64 0,.int .i64 0,.int .i64 0,.slice none 0 0] 70):=by rw[Z3,if_pos rfl]
   have eWb:=(Ext.rfl' Wa).alloc (.cells #[.int .i64 0,.int .i64 0,.int .i64 0,.int .i64 0,.slice none 0 0] 70);have lb19:=Z5 B9;obtain⟨b19,zb19⟩:∃z,z=Wa.heap.size:=⟨_,rfl⟩;rw[<-zb19] at B9 lb19;rw[<-zb19];replace zb19:Wa.heap.size<=b19/\b19<=Wa.heap.size:=by omega
   generalize World.alloc Wa _=Wb at B9 eWb lb19⊢;replace Bz:=eWb.get Bz;have eb:=eWa.trans eWb;have nb18:N<=b18:=by omega
   have nb19:N<=b19:=by omega
   have ne1:b19≠b18:=by omega
   have ne2:b18≠b19:=by omega
   obtain⟨k0,k1,k2,k3,k4⟩:=Zgj Bz;obtain⟨f0,f1,f2,f3,f4⟩:=ZiJ Bz;refine Zh4 4 rfl (by kernel_rfl) rfl (Zie ⟨put5 Wb b18 (.int .i64 r0) (.int .i64 r1) (.int .i64 r2) (.int .i64 r3) (.slice base n cap),by simp[go_sem,execOp,Act.eval,put5,k0,k1,k2,k3,k4,f0,f1,f2,f3,f4],ExtX.put5 _ nb18 _ _ _ _ _,?_⟩);go_simp;have Ca:=ZiD Bz (.int .i64 r0) (.int .i64 r1) (.int .i64 r2) (.int .i64 r3) (.slice base n cap);replace eb:=ZiE eb (show Wd.heap.size<=b18 by omega) (.int .i64 r0) (.int .i64 r1) (.int .i64 r2) (.int .i64 r3) (.slice base n cap);replace B9:=(ZiG Wb (show b19≠b18 by omega) (.int .i64 r0) (.int .i64 r1) (.int .i64 r2) (.int .i64 r3) (.slice base n cap)).trans B9;clear k0 k1 k2 k3 k4 f0 f1 f2 f3 f4 Bz;generalize put5 Wb b18 (.int .i64 r0) (.int .i64 r1) (.int .i64 r2) (.int .i64 r3) (.slice base n cap)=Wc at Ca eb B9⊢;obtain⟨k0,k1,k2,k3,k4⟩:=Zgj B9;obtain⟨f0,f1,f2,f3,f4⟩:=ZiJ B9;refine Zh4 5 rfl (by kernel_rfl) rfl (Zie ⟨put5 Wc b19 (.int .i64 r0) (.int .i64 r1) (.int .i64 r2) (.int .i64 r3) (.slice base n cap),by simp[go_sem,execOp,Act.eval,put5,k0,k1,k2,k3,k4,f0,f1,f2,f3,f4],ExtX.put5 _ nb19 _ _ _ _ _,?_⟩);go_simp;have Fw:=ZiD B9 (.int .i64 r0) (.int .i64 r1) (.int .i64 r2) (.int .i64 r3) (.slice base n cap)
   replace eb:=ZiE eb (show Wd.heap.size<=b19 by omega) (.int .i64 r0) (.int .i64 r1) (.int .i64 r2) (.int .i64 r3) (.slice base n cap);replace Ca:=(ZiG Wc (show b18≠b19 by omega) (.int .i64 r0) (.int .i64 r1) (.int .i64 r2) (.int .i64 r3) (.slice base n cap)).trans Ca;clear k0 k1 k2 k3 k4 f0 f1 f2 f3 f4 B9;generalize put5 Wc b19 (.int .i64 r0) (.int .i64 r1) (.int .i64 r2) (.int .i64 r3) (.slice base n cap)=We at Fw eb Ca⊢;refine ZhF (by kernel_rfl) ?_;exact⟨rfl,b18,b19,rfl,hD.trans eb,by omega,by omega,by omega,Ca,Fw⟩
  ·refine Zf3 ⟨.pointer (some ⟨Wd.heap.size,0,none⟩),Wd.alloc (.cells #[.int .i64 0,.int .i64 0,.int .i64 0,.int .i64 0,.slice none 0 0] 70),by simp[go_sem,execOp,Act.eval],Go.Nk.Ext.toX ((Ext.rfl' _).alloc _) _,?_⟩;go_simp;have B9:(Wd.alloc (.cells #[.int .i64 0,.int .i64 0,.int .i64 0,.int .i64 0,.slice none 0 0] 70)).heap[Wd.heap.size]? =some (.cells #[.int .i64 0,.int .i64 0,.int .i64 0,.int .i64 0,.slice none 0 0] 70):=by rw[Z3,if_pos rfl]
   have eWa:=(Ext.rfl' Wd).alloc (.cells #[.int .i64 0,.int .i64 0,.int .i64 0,.int .i64 0,.slice none 0 0] 70);have lb19:=Z5 B9;obtain⟨b19,zb19⟩:∃z,z=Wd.heap.size:=⟨_,rfl⟩;rw[<-zb19] at B9 lb19;rw[<-zb19];replace zb19:Wd.heap.size<=b19/\b19<=Wd.heap.size:=by omega
   generalize World.alloc Wd _=Wa at B9 eWa lb19⊢;refine Zh4 2 rfl (by kernel_rfl) rfl ?_;refine Zf3 ⟨.pointer (some ⟨Wa.heap.size,0,none⟩),Wa.alloc (.cells #[.int .i64 0,.int .i64 0,.int .i64 0,.int .i64 0,.slice none 0 0] 70),by simp[go_sem,execOp,Act.eval],Go.Nk.Ext.toX ((Ext.rfl' _).alloc _) _,?_⟩;go_simp;have Bz:(Wa.alloc (.cells #[.int .i64 0,.int .i64 0,.int .i64 0,.int .i64 0,.slice none 0 0] 70)).heap[Wa.heap.size]? =some (.cells #[.int .i64 0,.int .i64 0,.int .i64 0,.int .i64 0,.slice none 0 0] 70):=by rw[Z3,if_pos rfl]
   have eWb:=(Ext.rfl' Wa).alloc (.cells #[.int .i64 0,.int .i64 0,.int .i64 0,.int .i64 0,.slice none 0 0] 70);have lb18:=Z5 Bz;obtain⟨b18,zb18⟩:∃z,z=Wa.heap.size:=⟨_,rfl⟩;rw[<-zb18] at Bz lb18;rw[<-zb18];replace zb18:Wa.heap.size<=b18/\b18<=Wa.heap.size:=by omega
   generalize World.alloc Wa _=Wb at Bz eWb lb18⊢;replace B9:=eWb.get B9;have eb:=eWa.trans eWb;have nb19:N<=b19:=by omega
   have nb18:N<=b18:=by omega
   have ne1:b18≠b19:=by omega
   have ne2:b19≠b18:=by omega
   obtain⟨k0,k1,k2,k3,k4⟩:=Zgj Bz;obtain⟨f0,f1,f2,f3,f4⟩:=ZiJ Bz;refine Zh4 4 rfl (by kernel_rfl) rfl (Zie ⟨put5 Wb b18 (.int .i64 r0) (.int .i64 r1) (.int .i64 r2) (.int .i64 r3) (.slice base n cap),by simp[go_sem,execOp,Act.eval,put5,k0,k1,k2,k3,k4,f0,f1,f2,f3,f4],ExtX.put5 _ nb18 _ _ _ _ _,?_⟩);go_simp;have Ca:=ZiD Bz (.int .i64 r0) (.int .i64 r1) (.int .i64 r2) (.int .i64 r3) (.slice base n cap);replace eb:=ZiE eb (show Wd.heap.size<=b18 by omega) (.int .i64 r0) (.int .i64 r1) (.int .i64 r2) (.int .i64 r3) (.slice base n cap);replace B9:=(ZiG Wb (show b19≠b18 by omega) (.int .i64 r0) (.int .i64 r1) (.int .i64 r2) (.int .i64 r3) (.slice base n cap)).trans B9;clear k0 k1 k2 k3 k4 f0 f1 f2 f3 f4 Bz;generalize put5 Wb b18 (.int .i64 r0) (.int .i64 r1) (.int .i64 r2) (.int .i64 r3) (.slice base n cap)=Wc at Ca eb B9⊢;obtain⟨k0,k1,k2,k3,k4⟩:=Zgj B9;obtain⟨f0,f1,f2,f3,f4⟩:=ZiJ B9;refine Zh4 5 rfl (by kernel_rfl) rfl (Zie ⟨put5 Wc b19 (.int .i64 r0) (.int .i64 r1) (.int .i64 r2) (.int .i64 r3) (.slice base n cap),by simp[go_sem,execOp,Act.eval,put5,k0,k1,k2,k3,k4,f0,f1,f2,f3,f4],ExtX.put5 _ nb19 _ _ _ _ _,?_⟩);go_simp;have Fw:=ZiD B9 (.int .i64 r0) (.int .i64 r1) (.int .i64 r2) (.int .i64 r3) (.slice base n cap)
   replace eb:=ZiE eb (show Wd.heap.size<=b19 by omega) (.int .i64 r0) (.int .i64 r1) (.int .i64 r2) (.int .i64 r3) (.slice base n cap);replace Ca:=(ZiG Wc (show b18≠b19 by omega) (.int .i64 r0) (.int .i64 r1) (.int .i64 r2) (.int .i64 r3) (.slice base n cap)).trans Ca;clear k0 k1 k2 k3 k4 f0 f1 f2 f3 f4 B9;generalize put5 Wc b19 (.int .i64 r0) (.int .i64 r1) (.int .i64 r2) (.int .i64 r3) (.slice base n cap)=We at Fw eb Ca⊢;refine ZhF (by kernel_rfl) ?_;exact⟨rfl,b18,b19,rfl,hD.trans eb,by omega,by omega,by omega,Ca,Fw⟩
 ·rintro⟨b18,b19⟩ W ⟨Cc,A8,Bz,B9,h18,Ph⟩;simp only[Zip,Act.put];simp only at A8 Bz B9 h18 Ph;go_simp;have E9:Ext w W:=A7.trans Cc;have hN9:w.heap.size+1<W9.heap.size:=Z5 hx;have hbA:bA<W9.heap.size:=Z5 hA;replace hr:=Cc.get hr;replace hx:=Cc.get hx;replace hA:=Cc.get hA;obtain⟨s0,I1⟩:∃s,S[0]? =some s:=⟨_,List.getElem?_eq_getElem (by have:=A1.out;omega)⟩;obtain⟨BS,OS,hbe,Uy,_⟩:=hS.out 0 s0 I1;subst hbe;have hSw:=hS.out.ext E9;clear q0 q1 q2 q3 q4 A7 Cc I1 Uy;go_wp2_with fail;refine Zia (T:=Value×Value×Value×Value) (fun x=>[(131,x.1),(132,.pointer (some ⟨w.heap.size,4,none⟩)),(133,.slice (some ⟨BS,OS,none⟩) n cap),(134,x.2.1),(135,.agg #[.int .i64 xa,.int .i64 xm,.int .i64 xM,.int .i64 xw,.int .i64 xl]),(136,x.2.2.1),(137,x.2.2.2),(138,.pointer (some ⟨b18,4,none⟩))]) (fun x W'=>Ext w W'/\W'.heap[w.heap.size]? =some (.cells #[.int .i64 r0,.int .i64 r1,.int .i64 r2,.int .i64 r3,.slice (some ⟨BS,OS,none⟩) n cap] 70)/\W'.heap[bA]? =some (.cells #[.int .i64 la,.int .i64 ha] 48)/\W'.heap[b19]? =some (.cells #[.int .i64 r0,.int .i64 r1,.int .i64 r2,.int .i64 r3,.slice (some ⟨BS,OS,none⟩) n cap] 70)/\∃mb mc,W'.heap[b18]? =some (.cells #[.int .i64 r0,.int .i64 r1,.int .i64 r2,.int .i64 r3,.slice mb (n+1) mc] 70)/\RawS W' mb (S++[(⟨xa,xm,xM,xw,xl⟩:Rs)])/\Hid (∀b o,mb=some ⟨b,o,none⟩->b≠b19)) ?_ ?_
  ·refine Zhk (ExtX fun b=>W.heap.size<=b\/b=b18) (by kernel_rfl) ?_;have hD:=(Ext.rfl' W).drew;have H6:=hD.get hr;have hxd:=hD.get hx;have K9:=hD.get hA;have D5:=hD.get h18;have F8:=hD.get Ph;have Vi:=hSw.ext hD;have l18:=Z5 h18;have l19:=Z5 Ph;have lA:=Z5 hA;have Lf:¬(W.heap.size<=w.heap.size\/w.heap.size=b18):=by omega
   have Q0:¬(W.heap.size<=w.heap.size+1\/w.heap.size+1=b18):=by omega
   have Tx:W.heap.size<=W.drew.heap.size/\W.drew.heap.size<=W.heap.size:=⟨Nat.le_refl _,Nat.le_refl _⟩;obtain⟨N,hN⟩:∃z,z=W.heap.size:=⟨_,rfl⟩;rw[<-hN] at Lf Q0 Tx l18 l19 lA;rw[<-hN];replace hN:W.heap.size<=N/\N<=W.heap.size:=by omega
   obtain⟨_,_,_,_,q4⟩:=Zgj H6;obtain⟨x0,x1,x2,x3,x4⟩:=Zgj hxd;generalize W.drew=Wd at hD H6 hxd K9 D5 F8 Vi Tx q4 x0 x1 x2 x3 x4⊢;have g4:=GrE.cell (X:=fun b=>N<=b\/b=b18) Lf q4;have y0:=GrE.cell (X:=fun b=>N<=b\/b=b18) Q0 x0;have y1:=GrE.cell (X:=fun b=>N<=b\/b=b18) Q0 x1;have y2:=GrE.cell (X:=fun b=>N<=b\/b=b18) Q0 x2;have y3:=GrE.cell (X:=fun b=>N<=b\/b=b18) Q0 x3;have y4:=GrE.cell (X:=fun b=>N<=b\/b=b18) Q0 x4;refine Zh8 (ExtX.pre _) [1,2,4] (by kernel_rfl) (by kernel_rfl) ?_;simp only[ZeD,List.getElem?_cons_succ,List.getElem?_cons_zero,List.cons_append,List.nil_append]
   repeat (go_big_quiet_step (fail))
   refine wpQuiet_nil ?_;clear q4 g4 x0 x1 x2 x3 x4 y0 y1 y2 y3 y4;have eb:=Ext.rfl' Wd;refine Zir 0 5 rfl rfl (by kernel_rfl) rfl rfl ?_ ?_
   ·refine Zf3 ⟨.slice (some ⟨Wd.heap.size,0,none⟩) 0 0,Wd.alloc (.cells #[] 80),by simp[go_sem,execOp,Act.eval],Go.Nk.Ext.toX ((Ext.rfl' _).alloc _) _,?_⟩;go_simp;have I7:(Wd.alloc (.cells #[] 80)).heap[Wd.heap.size]? =some (.cells #[] 80):=(by rw[Z3,if_pos rfl]);have eWa:=(Ext.rfl' Wd).alloc (.cells #[] 80);obtain⟨bz,zbz⟩:∃z,z=Wd.heap.size:=⟨_,rfl⟩;rw[<-zbz] at I7;rw[<-zbz];replace zbz:Wd.heap.size<=bz/\bz<=Wd.heap.size:=(by omega);generalize World.alloc Wd _=Wa at I7 eWa⊢;have lbz:=Z5 I7;replace eb:=eb.trans eWa;refine Zir 3 5 rfl rfl (by kernel_rfl) rfl rfl ?_ ?_
    ·refine Zix _ _ rfl Wd.heap.size _ [] rfl (Ziz I7 (by omega)) ⟨BS,OS,none⟩ cap S (by rw[A1.out];rfl) (Ziy (Vi.ext eb)) (by simp[A1.out];omega) eb.size (fun v134 Wb own3 Ka=>⟨Zhv Ka (fun k hk=>by cases hk;exact .inl (show N<=bz by omega)),?_⟩);rw[List.nil_append] at own3;go_simp;replace eb:=eb.grown Ka (fun k hk=>by cases hk;show Wd.heap.size<=bz;omega);refine Zh4 5 rfl (by kernel_rfl) rfl ?_;refine Zf3 ⟨.slice (some ⟨Wb.heap.size,0,none⟩) 1 1,Wb.alloc (.cells #[.int .i64 xa,.int .i64 xm,.int .i64 xM,.int .i64 xw,.int .i64 xl] 80),by simp[go_sem,execOp,Act.eval],Go.Nk.Ext.toX ((Ext.rfl' _).alloc _) _,?_⟩;go_simp;have Ck:(Wb.alloc (.cells #[.int .i64 xa,.int .i64 xm,.int .i64 xM,.int .i64 xw,.int .i64 xl] 80)).heap[Wb.heap.size]? =some (.cells #[.int .i64 xa,.int .i64 xm,.int .i64 xM,.int .i64 xw,.int .i64 xl] 80):=(by rw[Z3,if_pos rfl]);have eWc:=(Ext.rfl' Wb).alloc (.cells #[.int .i64 xa,.int .i64 xm,.int .i64 xM,.int .i64 xw,.int .i64 xl] 80);obtain⟨b5,zb5⟩:∃z,z=Wb.heap.size:=⟨_,rfl⟩;rw[<-zb5] at Ck;rw[<-zb5];replace zb5:Wb.heap.size<=b5/\b5<=Wb.heap.size:=(by omega);generalize World.alloc Wb _=Wc at Ck eWc⊢;have lb5:=Z5 Ck;replace eb:=eb.trans eWc;replace own3:=own3.ext eWc
     have I4:∀j u,(Ziv [(⟨xa,xm,xM,xw,xl⟩:Rs)])[j]? =some u->Wc.cell? ((⟨b5,0,none⟩:Addr).add j)=some u:=by
      intro j u hj;rw[Z0c,Z0 Ck];have:Ziv [(⟨xa,xm,xM,xw,xl⟩:Rs)]=[.int .i64 xa,.int .i64 xm,.int .i64 xM,.int .i64 xw,.int .i64 xl]:=rfl;rw[this] at hj;rw[List.getElem?_toArray];exact hj
     refine Zh4 6 rfl (by kernel_rfl) rfl (Zix _ _ rfl Wd.heap.size v134 S rfl own3 ⟨b5,0,none⟩ 1 [(⟨xa,xm,xM,xw,xl⟩:Rs)] rfl I4 (by simp[A1.out];omega) eb.size (fun v6 W6 own6 Mi=>⟨Zhv Mi (fun k hk=> .inl (by have:=(own3.lt k hk).1;omega)),?_⟩));replace eb:=eb.grown Mi (fun k hk=>(own3.lt k hk).1);obtain⟨g6,mc,rfl,Ty,Tz,Fx,_,_⟩:=own6.form (by simp);rw[show(S++[(⟨xa,xm,xM,xw,xl⟩:Rs)]).length=n+1 by simp[A1.out]];go_simp;refine Zh8 (ExtX.pre _) [7] (by kernel_rfl) (by kernel_rfl) ?_;simp only[ZeD,List.getElem?_cons_succ,List.getElem?_cons_zero,List.cons_append,List.nil_append]
     repeat (go_big_quiet_step (fail))
     refine wpQuiet_nil ?_;obtain⟨k0,k1,k2,k3,k4⟩:=Zgj (eb.get D5);obtain⟨f0,f1,f2,f3,f4⟩:=ZiJ (eb.get D5);refine Zh4 8 rfl (by kernel_rfl) rfl (Zie ⟨W6.setCell ⟨b18,4,none⟩ (.slice (some ⟨g6,0,none⟩) (n+1) mc),by simp[go_sem,execOp,Act.eval,k4,f4],ExtX.set W6 (.inr rfl) _,?_⟩);go_simp;refine ZhF (by kernel_rfl) ?_;refine⟨rfl,⟨.slice (some ⟨bz,0,none⟩) 0 0,v134,.slice (some ⟨b5,0,none⟩) 1 1,.slice (some ⟨g6,0,none⟩) (n+1) mc,(by simp only[Zip,Act.put];go_simp)⟩,?_⟩;exact⟨((E9.trans hD).trans eb).setCell _ _ (show w.heap.size<=b18 by omega),(set_ne (a:=⟨b18,4,none⟩) (show w.heap.size≠b18 by omega) _).trans (eb.get H6),(set_ne (a:=⟨b18,4,none⟩) (show bA≠b18 by omega) _).trans (eb.get K9),(set_ne (a:=⟨b18,4,none⟩) (show b19≠b18 by omega) _).trans (eb.get F8),_,⟨_,Zb (eb.get D5) _⟩,Ziw Fx (set_ne (a:=⟨b18,4,none⟩) (show g6≠b18 by omega) _),(fun b o e=>by cases e;omega)⟩
    ·refine Zf3 ⟨.slice (some ⟨Wa.heap.size,0,none⟩) 1 1,Wa.alloc (.cells #[.int .i64 xa,.int .i64 xm,.int .i64 xM,.int .i64 xw,.int .i64 xl] 80),by simp[go_sem,execOp,Act.eval],Go.Nk.Ext.toX ((Ext.rfl' _).alloc _) _,?_⟩;go_simp;have Ck:(Wa.alloc (.cells #[.int .i64 xa,.int .i64 xm,.int .i64 xM,.int .i64 xw,.int .i64 xl] 80)).heap[Wa.heap.size]? =some (.cells #[.int .i64 xa,.int .i64 xm,.int .i64 xM,.int .i64 xw,.int .i64 xl] 80):=(by rw[Z3,if_pos rfl]);have eWb:=(Ext.rfl' Wa).alloc (.cells #[.int .i64 xa,.int .i64 xm,.int .i64 xM,.int .i64 xw,.int .i64 xl] 80);obtain⟨b5,zb5⟩:∃z,z=Wa.heap.size:=⟨_,rfl⟩;rw[<-zb5] at Ck;rw[<-zb5];replace zb5:Wa.heap.size<=b5/\b5<=Wa.heap.size:=(by omega);generalize World.alloc Wa _=Wb at Ck eWb⊢;have lb5:=Z5 Ck;replace eb:=eb.trans eWb;replace I7:=eWb.get I7;refine Zh4 3 rfl (by kernel_rfl) rfl ?_;refine Zix _ _ rfl Wd.heap.size _ [] rfl (Ziz I7 (by omega)) ⟨BS,OS,none⟩ cap S (by rw[A1.out];rfl) (Ziy (Vi.ext eb)) (by simp[A1.out];omega) eb.size (fun v134 Wc own3 Ka=>⟨Zhv Ka (fun k hk=>by cases hk;exact .inl (show N<=bz by omega)),?_⟩);rw[List.nil_append] at own3;go_simp;replace Ck:=(Ka.block b5 (Z5 Ck) (by intro e;injection e with e;change b5=bz at e;omega)).trans Ck
     replace eb:=eb.grown Ka (fun k hk=>by cases hk;show Wd.heap.size<=bz;omega);have I4:∀j u,(Ziv [(⟨xa,xm,xM,xw,xl⟩:Rs)])[j]? =some u->Wc.cell? ((⟨b5,0,none⟩:Addr).add j)=some u:=by
      intro j u hj;rw[Z0c,Z0 Ck];have:Ziv [(⟨xa,xm,xM,xw,xl⟩:Rs)]=[.int .i64 xa,.int .i64 xm,.int .i64 xM,.int .i64 xw,.int .i64 xl]:=rfl;rw[this] at hj;rw[List.getElem?_toArray];exact hj
     refine Zh4 6 rfl (by kernel_rfl) rfl (Zix _ _ rfl Wd.heap.size v134 S rfl own3 ⟨b5,0,none⟩ 1 [(⟨xa,xm,xM,xw,xl⟩:Rs)] rfl I4 (by simp[A1.out];omega) eb.size (fun v6 W6 own6 Mi=>⟨Zhv Mi (fun k hk=> .inl (by have:=(own3.lt k hk).1;omega)),?_⟩));replace eb:=eb.grown Mi (fun k hk=>(own3.lt k hk).1);obtain⟨g6,mc,rfl,Ty,Tz,Fx,_,_⟩:=own6.form (by simp);rw[show(S++[(⟨xa,xm,xM,xw,xl⟩:Rs)]).length=n+1 by simp[A1.out]];go_simp;refine Zh8 (ExtX.pre _) [7] (by kernel_rfl) (by kernel_rfl) ?_;simp only[ZeD,List.getElem?_cons_succ,List.getElem?_cons_zero,List.cons_append,List.nil_append]
     repeat (go_big_quiet_step (fail))
     refine wpQuiet_nil ?_;obtain⟨k0,k1,k2,k3,k4⟩:=Zgj (eb.get D5);obtain⟨f0,f1,f2,f3,f4⟩:=ZiJ (eb.get D5);refine Zh4 8 rfl (by kernel_rfl) rfl (Zie ⟨W6.setCell ⟨b18,4,none⟩ (.slice (some ⟨g6,0,none⟩) (n+1) mc),by simp[go_sem,execOp,Act.eval,k4,f4],ExtX.set W6 (.inr rfl) _,?_⟩);go_simp;refine ZhF (by kernel_rfl) ?_;refine⟨rfl,⟨.slice (some ⟨bz,0,none⟩) 0 0,v134,.slice (some ⟨b5,0,none⟩) 1 1,.slice (some ⟨g6,0,none⟩) (n+1) mc,(by simp only[Zip,Act.put];go_simp)⟩,?_⟩;exact⟨((E9.trans hD).trans eb).setCell _ _ (show w.heap.size<=b18 by omega),(set_ne (a:=⟨b18,4,none⟩) (show w.heap.size≠b18 by omega) _).trans (eb.get H6),(set_ne (a:=⟨b18,4,none⟩) (show bA≠b18 by omega) _).trans (eb.get K9),(set_ne (a:=⟨b18,4,none⟩) (show b19≠b18 by omega) _).trans (eb.get F8),_,⟨_,Zb (eb.get D5) _⟩,Ziw Fx (set_ne (a:=⟨b18,4,none⟩) (show g6≠b18 by omega) _),(fun b o e=>by cases e;omega)⟩
   ·refine Zf3 ⟨.slice (some ⟨Wd.heap.size,0,none⟩) 1 1,Wd.alloc (.cells #[.int .i64 xa,.int .i64 xm,.int .i64 xM,.int .i64 xw,.int .i64 xl] 80),by simp[go_sem,execOp,Act.eval],Go.Nk.Ext.toX ((Ext.rfl' _).alloc _) _,?_⟩;go_simp;have Ck:(Wd.alloc (.cells #[.int .i64 xa,.int .i64 xm,.int .i64 xM,.int .i64 xw,.int .i64 xl] 80)).heap[Wd.heap.size]? =some (.cells #[.int .i64 xa,.int .i64 xm,.int .i64 xM,.int .i64 xw,.int .i64 xl] 80):=(by rw[Z3,if_pos rfl]);have eWa:=(Ext.rfl' Wd).alloc (.cells #[.int .i64 xa,.int .i64 xm,.int .i64 xM,.int .i64 xw,.int .i64 xl] 80);obtain⟨b5,zb5⟩:∃z,z=Wd.heap.size:=⟨_,rfl⟩;rw[<-zb5] at Ck;rw[<-zb5];replace zb5:Wd.heap.size<=b5/\b5<=Wd.heap.size:=(by omega);generalize World.alloc Wd _=Wa at Ck eWa⊢;have lb5:=Z5 Ck;replace eb:=eb.trans eWa;refine Zh4 0 rfl (by kernel_rfl) rfl ?_;refine Zf3 ⟨.slice (some ⟨Wa.heap.size,0,none⟩) 0 0,Wa.alloc (.cells #[] 80),by simp[go_sem,execOp,Act.eval],Go.Nk.Ext.toX ((Ext.rfl' _).alloc _) _,?_⟩;go_simp;have I7:(Wa.alloc (.cells #[] 80)).heap[Wa.heap.size]? =some (.cells #[] 80):=(by rw[Z3,if_pos rfl]);have eWb:=(Ext.rfl' Wa).alloc (.cells #[] 80);obtain⟨bz,zbz⟩:∃z,z=Wa.heap.size:=⟨_,rfl⟩;rw[<-zbz] at I7;rw[<-zbz];replace zbz:Wa.heap.size<=bz/\bz<=Wa.heap.size:=by omega
    generalize World.alloc Wa _=Wb at I7 eWb⊢;have lbz:=Z5 I7;replace eb:=eb.trans eWb;replace Ck:=eWb.get Ck;refine Zh4 3 rfl (by kernel_rfl) rfl ?_;refine Zix _ _ rfl Wd.heap.size _ [] rfl (Ziz I7 (by omega)) ⟨BS,OS,none⟩ cap S (by rw[A1.out];rfl) (Ziy (Vi.ext eb)) (by simp[A1.out];omega) eb.size (fun v134 Wc own3 Ka=>⟨Zhv Ka (fun k hk=>by cases hk;exact .inl (show N<=bz by omega)),?_⟩);rw[List.nil_append] at own3;go_simp;replace Ck:=(Ka.block b5 (Z5 Ck) (by intro e;injection e with e;change b5=bz at e;omega)).trans Ck;replace eb:=eb.grown Ka (fun k hk=>by cases hk;show Wd.heap.size<=bz;omega);have I4:∀j u,(Ziv [(⟨xa,xm,xM,xw,xl⟩:Rs)])[j]? =some u->Wc.cell? ((⟨b5,0,none⟩:Addr).add j)=some u:=by
     intro j u hj;rw[Z0c,Z0 Ck];have:Ziv [(⟨xa,xm,xM,xw,xl⟩:Rs)]=[.int .i64 xa,.int .i64 xm,.int .i64 xM,.int .i64 xw,.int .i64 xl]:=rfl;rw[this] at hj;rw[List.getElem?_toArray];exact hj
    refine Zh4 6 rfl (by kernel_rfl) rfl (Zix _ _ rfl Wd.heap.size v134 S rfl own3 ⟨b5,0,none⟩ 1 [(⟨xa,xm,xM,xw,xl⟩:Rs)] rfl I4 (by simp[A1.out];omega) eb.size (fun v6 W6 own6 Mi=>⟨Zhv Mi (fun k hk=> .inl (by have:=(own3.lt k hk).1;omega)),?_⟩));replace eb:=eb.grown Mi (fun k hk=>(own3.lt k hk).1);obtain⟨g6,mc,rfl,Ty,Tz,Fx,_,_⟩:=own6.form (by simp);rw[show(S++[(⟨xa,xm,xM,xw,xl⟩:Rs)]).length=n+1 by simp[A1.out]];go_simp;refine Zh8 (ExtX.pre _) [7] (by kernel_rfl) (by kernel_rfl) ?_;simp only[ZeD,List.getElem?_cons_succ,List.getElem?_cons_zero,List.cons_append,List.nil_append]
    repeat (go_big_quiet_step (fail))
    refine wpQuiet_nil ?_;obtain⟨k0,k1,k2,k3,k4⟩:=Zgj (eb.get D5);obtain⟨f0,f1,f2,f3,f4⟩:=ZiJ (eb.get D5);refine Zh4 8 rfl (by kernel_rfl) rfl (Zie ⟨W6.setCell ⟨b18,4,none⟩ (.slice (some ⟨g6,0,none⟩) (n+1) mc),by simp[go_sem,execOp,Act.eval,k4,f4],ExtX.set W6 (.inr rfl) _,?_⟩);go_simp;refine ZhF (by kernel_rfl) ?_;refine⟨rfl,⟨.slice (some ⟨bz,0,none⟩) 0 0,v134,.slice (some ⟨b5,0,none⟩) 1 1,.slice (some ⟨g6,0,none⟩) (n+1) mc,(by simp only[Zip,Act.put];go_simp)⟩,?_⟩;exact⟨((E9.trans hD).trans eb).setCell _ _ (show w.heap.size<=b18 by omega),(set_ne (a:=⟨b18,4,none⟩) (show w.heap.size≠b18 by omega) _).trans (eb.get H6),(set_ne (a:=⟨b18,4,none⟩) (show bA≠b18 by omega) _).trans (eb.get K9),(set_ne (a:=⟨b18,4,none⟩) (show b19≠b18 by omega) _).trans (eb.get F8),_,⟨_,Zb (eb.get D5) _⟩,Ziw Fx (set_ne (a:=⟨b18,4,none⟩) (show g6≠b18 by omega) _),(fun b o e=>by cases e;omega)⟩
  ·rintro⟨v131,v134,v136,v137⟩ W' ⟨Oq,hr',hA',Or,mb,mc,Ot,Ft,hmb⟩;simp only[Zip,Act.put];go_simp;have U0:=hS.out.ext Oq;have hlS:=A1.out;obtain⟨kk,hKe⟩:∃kk:Nat,wh % (n:Int)=(kk:Int):=⟨(wh % (n:Int)).toNat,by have:=Int.emod_nonneg wh (show(n:Int)≠0 by omega);omega⟩;have hKn:kk<n:=by have:=Int.emod_lt_of_pos wh (show(0:Int)<n by omega);omega
   have l18:=Z5 Ot;have l19:=Z5 Or;have lA:=Z5 hA';have lr:=Z5 hr';obtain⟨q0,q1,q2,q3,q4⟩:=Zgj hr';have U1:=(Z3 W' (.cells #[] 80) W'.heap.size).trans (if_pos rfl);have Mj:OwnS W'.heap.size (W'.alloc (.cells #[] 80)) (.slice (some ⟨W'.heap.size,0,none⟩) 0 0) []:=Ziz U1 (Nat.le_refl _);have Gq:=Ziy (U0.ext ((Ext.rfl' W').alloc (.cells #[] 80)))
   go_wp2_with (
    at_builtin
    refine wpList_plain rfl fun K hK=> ?_
    refine Zix _ _ rfl W'.heap.size _ [] rfl Mj ⟨BS,OS,none⟩ cap S (by rw[hlS];rfl) Gq (by simp only[List.length_nil];omega) (by rw[Z2];omega) (fun v12 W12 own12 U2=>hK _ _ ?_);rw[List.nil_append] at own12;obtain⟨g12,mc2,rfl,Na,I3,Fx,_,_⟩:=own12.form (by omega);rw[hlS];have K8:=((Ext.rfl' W').alloc (.cells #[] 80)).grown U2 (fun k hk=>by cases hk;exact Nat.le_refl _);have Lg:=K8.get Or;obtain⟨k0,k1,k2,k3,k4⟩:=Zgj Lg;obtain⟨f0,f1,f2,f3,f4⟩:=ZiJ Lg;obtain⟨q0',q1',q2',q3',q4'⟩:=Zgj (K8.get hr'))
   have hnb:b18≠b19/\bA≠b19/\w.heap.size≠b19/\g12≠b19/\w.heap.size<=b19:=by omega
   have Gu:(W12.setCell ⟨b19,4,none⟩ (.slice (some ⟨g12,0,none⟩) n mc2)).heap[b19]? =some (.cells #[.int .i64 r0,.int .i64 r1,.int .i64 r2,.int .i64 r3,.slice (some ⟨g12,0,none⟩) n mc2] 70):=Zb Lg _;have Q1:=(Oq.trans K8).setCell ⟨b19,4,none⟩ (.slice (some ⟨g12,0,none⟩) n mc2) hnb.2.2.2.2;have Ht:=(set_ne (a:=⟨b19,4,none⟩) hnb.1 (.slice (some ⟨g12,0,none⟩) n mc2)).trans (K8.get Ot);have Q2:=(set_ne (a:=⟨b19,4,none⟩) hnb.2.1 (.slice (some ⟨g12,0,none⟩) n mc2)).trans (K8.get hA');have Cj:=Ziw Fx (set_ne (a:=⟨b19,4,none⟩) hnb.2.2.2.1 (.slice (some ⟨g12,0,none⟩) n mc2));have E3:RawS (W12.setCell ⟨b19,4,none⟩ (.slice (some ⟨g12,0,none⟩) n mc2)) mb (S++[(⟨xa,xm,xM,xw,xl⟩:Rs)]):=by
    obtain⟨b,o,e,_,_⟩:=Ft 0 ((S++[(⟨xa,xm,xM,xw,xl⟩:Rs)])[0]'(by simp)) (List.getElem?_eq_getElem _);subst e;exact Ziw (Ft.ext K8) (set_ne (a:=⟨b19,4,none⟩) (hmb.out b o rfl) _)
   obtain⟨cur,F9⟩:∃cur,W12.heap[g12]? =some (.cells cur 80):=by
    rcases own12.2 with⟨h,_⟩|⟨_,_,cur,he,_,hg,_⟩
    ·cases h
    ·cases he;exact⟨cur,hg⟩
   replace F9:=(set_ne (a:=⟨b19,4,none⟩) hnb.2.2.2.1 (.slice (some ⟨g12,0,none⟩) n mc2)).trans F9;have Q3:b19≠g12/\bA≠g12/\b18≠g12/\w.heap.size<=g12:=by have:=Oq.size;omega
   have hmg:Hid (∀b o,mb=some ⟨b,o,none⟩->b≠g12):=by
    intro b o e;obtain⟨b',o',e',hb',_⟩:=Ft 0 ((S++[(⟨xa,xm,xM,xw,xl⟩:Rs)])[0]'(by simp)) (List.getElem?_eq_getElem _);rw[e] at e';cases e';omega
   have Ge:g12<(W12.setCell ⟨b19,4,none⟩ (.slice (some ⟨g12,0,none⟩) n mc2)).heap.size:=by rw[(Go.Conc.aside_setCell _ _ _).size];exact I3
   obtain⟨s,hs⟩:∃s,S[kk]? =some s:=⟨_,List.getElem?_eq_getElem (by omega)⟩;have hsw:=hwi.out s (List.mem_of_getElem? hs);have hnm2:=Qs;have hnl2:=Hw kk s hs;clear own12 U2 Na I3 Fx K8 Lg Ot hA' Ft hmb U0 Gq Mj U1 k0 k1 k2 k3 k4 f0 f1 f2 f3 f4 q0 q1 q2 q3 q4 q0' q1' q2' q3' q4' Qs Hw hr' Or lr l18 l19 lA;generalize W12.setCell ⟨b19,4,none⟩ (.slice (some ⟨g12,0,none⟩) n mc2)=V at Gu Q1 Ht Q2 Cj E3 Ge F9⊢;refine Zhk (ExtX fun q=>q=g12) (by kernel_rfl) ?_;have hD:=(Ext.rfl' V).drew;replace Gu:=hD.get Gu;replace Ht:=hD.get Ht;replace Q2:=hD.get Q2;replace F9:=hD.get F9;replace Q1:=Q1.trans hD;replace Cj:=Cj.ext hD;replace E3:=E3.ext hD;generalize V.drew=Vd at Gu Ht Q2 F9 Q1 Cj E3⊢;clear hD Ge;obtain⟨_,_,_,_,k4⟩:=Zgj Gu;obtain⟨b',o',e',_,sh⟩:=Cj kk s hs;obtain⟨rfl,rfl⟩:g12=b'/\0=o':=by simpa using e'
   have m3:=sh.c3;have m4:=sh.c4;simp only[Nat.zero_add] at m3 m4;have z3:=Z8 F9 (kk*5+3);have gk4:=GrE.cell (X:=fun q=>q=g12) Q3.1 k4;have hK1:(kk:Int)<(n:Int):=by omega
   have hK0:(0:Int)<=(kk:Int):=by omega
   have Qc:s.wi.tdiv 2=s.wi / 2:=Int.tdiv_eq_ediv_of_nonneg hsw.1;refine Zh8 (ExtX.pre _) [0,1,2,3,4,5,6,7,8,9,10] (by kernel_rfl) (by kernel_rfl) ?_;simp only[ZeD,List.getElem?_cons_succ,List.getElem?_cons_zero,List.cons_append,List.nil_append]
   repeat (go_big_quiet_step (fail))
   refine wpQuiet_nil ?_;refine Zh4 11 rfl (by kernel_rfl) rfl ?_;refine Zf3 ⟨.int .i64 s.wi,Vd,by simp[go_sem,execOp,Act.eval,m3],Go.Nk.Ext.toX (Ext.rfl' _) _,?_⟩;go_simp;refine Zh8 (ExtX.pre _) [12,13,14] (by kernel_rfl) (by kernel_rfl) ?_;simp only[ZeD,List.getElem?_cons_succ,List.getElem?_cons_zero,List.cons_append,List.nil_append]
   repeat (go_big_quiet_step (fail))
   refine wpQuiet_nil ?_;refine Zh4 15 rfl (by kernel_rfl) rfl ?_;refine Zie ⟨Vd.setCell ⟨g12,kk*5+3,none⟩ (.int .i64 (s.wi / 2)),by simp[go_sem,execOp,Act.eval,m3,z3],ExtX.set (X:=fun q=>q=g12) Vd rfl _,?_⟩;have m4':=(Ziu (w:=Vd) (g:=g12) (p:=kk*5+3) (q:=kk*5+4) (.int .i64 (s.wi / 2)) (by omega)).trans m4;have z4:=Z8 (Zb (i:=kk*5+3) F9 (.int .i64 (s.wi / 2))) (kk*5+4);go_simp;refine Zh8 (ExtX.pre _) [16,17] (by kernel_rfl) (by kernel_rfl) ?_;simp only[ZeD,List.getElem?_cons_succ,List.getElem?_cons_zero,List.cons_append,List.nil_append]
   repeat (go_big_quiet_step (fail))
   refine wpQuiet_nil ?_;refine Zh4 18 rfl (by kernel_rfl) rfl ?_;refine Zie ⟨(Vd.setCell ⟨g12,kk*5+3,none⟩ (.int .i64 (s.wi / 2))).setCell ⟨g12,kk*5+4,none⟩ (.int .i64 0),by simp[go_sem,execOp,Act.eval,m4',z4],ExtX.set (X:=fun q=>q=g12) _ rfl _,?_⟩;go_simp;refine ZhF (by kernel_rfl) ?_;have Fa:=ZiO Cj hs;have Eg:=(Q1.setCell ⟨g12,kk*5+3,none⟩ (.int .i64 (s.wi / 2)) Q3.2.2.2).setCell ⟨g12,kk*5+4,none⟩ (.int .i64 0) Q3.2.2.2;have keep:∀b,b≠g12->((Vd.setCell ⟨g12,kk*5+3,none⟩ (.int .i64 (s.wi / 2))).setCell ⟨g12,kk*5+4,none⟩ (.int .i64 0)).heap[b]? =Vd.heap[b]? :=fun b hb=>(set_ne (a:=⟨g12,kk*5+4,none⟩) hb _).trans (set_ne (a:=⟨g12,kk*5+3,none⟩) hb _)
   have F8:=(keep _ Q3.1).trans Gu;have K9:=(keep _ Q3.2.1).trans Q2;have D5:=(keep _ Q3.2.2.1).trans Ht;have Mk:RawS ((Vd.setCell ⟨g12,kk*5+3,none⟩ (.int .i64 (s.wi / 2))).setCell ⟨g12,kk*5+4,none⟩ (.int .i64 0)) mb (S++[(⟨xa,xm,xM,xw,xl⟩:Rs)]):=by
    obtain⟨b,o,e,_,_⟩:=E3 0 ((S++[(⟨xa,xm,xM,xw,xl⟩:Rs)])[0]'(by simp)) (List.getElem?_eq_getElem _);subst e;exact Ziw E3 (keep b (hmg.out b o rfl))
   clear Gu Q2 Ht E3 Cj Q1 F9 keep m3 m4 m4' z3 z4 k4 sh Qc hmg;generalize World.setCell _ _ _=V2 at Fa Eg F8 K9 D5 Mk⊢;obtain⟨k0,k1,k2,k3,k4⟩:=Zgj D5;have y:=Zc K9;have y0:=y.1;have y1:=y.2.1;clear y
   go_wp2_with (first
    |(go_at_call 50;(with_reducible refine(hnm2 _ mb mc Eg Mk).mono ?_);rintro e9 V3 ⟨rfl,hF⟩;replace Eg:=Eg.trans hF;replace Fa:=Fa.ext hF;replace F8:=hF.get F8;replace K9:=hF.get K9;clear k0 k1 k2 k3 k4 y0 y1 hF;obtain⟨k0,k1,k2,k3,k4⟩:=Zgj F8;have y:=Zc K9;have y0:=y.1;have y1:=y.2.1;clear y)
    |(go_at_call 50;(with_reducible refine(hnl2 _ _ mc2 Eg Fa).mono ?_);rintro e9 V4 ⟨rfl,hF⟩;replace Eg:=Eg.trans hF;clear k0 k1 k2 k3 k4 y0 y1 hF)
    |(go_at_call 22;refine(B6 _ Eg).mono ?_;rintro e9 V5 ⟨rfl,hF⟩))
   go_ret;exact rfl
end Go.Proofs.Tryq
namespace Go.Proofs.Tryq
set_option maxRecDepth 100000
set_option maxHeartbeats 4000000
open Go Go.Nk Go.RowKit
theorem ZiF(r0 r1 r2 r3:Int)(base:Option Addr)(n cap:Nat)(u1 u2 xa xm xM xw xl wh:Int)(S:List Rs)(w:World)(A1:S.length=n)(hu1:0<=u1/\u1<256)(X4:0<=u2/\u2<256)(hwh:0<=wh/\wh<256)(hM:Meas w)(Ce:Most w)(hd:Deb w)(hS:RawS w base S):
 Calls prog 9 #[.agg #[.int .i64 r0,.int .i64 r1,.int .i64 r2,.int .i64 r3,.slice base n cap],.int .u8 u1,.int .u8 u2,.agg #[.int .i64 xa,.int .i64 xm,.int .i64 xM,.int .i64 xw,.int .i64 xl],.int .u8 wh] w fun e w'=>e= .returned (.bool true):=by
 have Lh:=fun W (hW:Ext w W)=>Zgb r0 r1 r2 r3 base n cap S W A1 (hS.ext hW)
 have B6:∀W,Ext w W->Calls prog 22 #[] W fun e w'=>e= .returned (.bool true)/\Ext W w':=fun W (hW:Ext w W)=>Zce W (hM.ext hW) (Ce.ext hW) (hd.ext hW)
 cases hf:ZfR r0 r1 r2 r3 S with
 |false=>
  simp only[hf] at Lh;exact ZiQ r0 r1 r2 r3 base n cap u1 u2 xa xm xM xw xl wh w Lh B6
 |true=>
  simp only[hf] at Lh;have Do:ZC r0 r1 r2 r3 S=0:=by simp[ZfR] at hf;exact hf.2
  have Bv:=Zav Do;have D0:=Bv.len;rw[A1] at D0;have Bu:∀W,Ext w W->Calls prog 44 #[.int .i64 n] W fun e w'=>∃x,e= .returned x/\(∃ao cp,x= .slice ao n cp/\RawI w' ao (upL n)/\n<=cp)/\Ext W w':=by
   intro W hW;refine(Zg9 n W (by omega)).mono ?_;rintro e w2 ⟨x,rfl,hx,hE⟩;obtain⟨bl,cl,rfl,hI,Gl⟩:=hx.rawI;have hl:(upL n).length=n:=by simp[upL]
   rw[hl] at Gl;exact⟨_,rfl,⟨bl,cl,by rw[hl],hI,Gl⟩,hE⟩
  have Hs:=fun W ao cp (hW:Ext w W)(hI:RawI W ao (upL n))(_:n<=cp)=>Zg2 r0 r1 r2 r3 base n cap S ao n cp (upL n) W A1 (by omega) (by simp[upL]) (by omega) (fun j hj=>mem_upL.1 hj) (hS.ext hW) hI
  cases hq:Z20 r0 r1 r2 r3 S (upL n) with
  |false=>
   simp only[hq] at Hs;exact ZiR r0 r1 r2 r3 base n cap u1 u2 xa xm xM xw xl wh w Lh Bu Hs B6
  |true=>
   simp only[hq] at Hs;by_cases hz:n=0
   ·exact ZiS r0 r1 r2 r3 base n cap u1 u2 xa xm xM xw xl wh w Lh Bu Hs (by rw[hz];rfl) B6
   ·have hg:Fine r0 r1 r2 r3 S:=⟨Do,fun e=>hz (by rw[<-A1,e];rfl),by rw[A1];exact hq⟩;obtain⟨d,G5⟩:∃d:Int,d=min (min u1 u2 % 91) (max u1 u2 % 91):=⟨_,rfl⟩;obtain⟨e,Ho⟩:∃e:Int,e=max (min u1 u2 % 91) (max u1 u2 % 91):=⟨_,rfl⟩;have Gh:0<=d/\d<=e/\e<=90:=(by clear Lh B6 Bu Hs hM Ce hd hS;omega);have Cl:0<=d/\d<=90:=(by clear G5 Ho Lh B6 Bu Hs hM Ce hd hS;omega);have Vj:0<=e/\e<=90:=(by clear G5 Ho Lh B6 Bu Hs hM Ce hd hS;omega);have Nr:=hg.grows Gh.1 Gh.2.1 Gh.2.2;have Tv:=fun W (hW:Ext w W)=>Z86 r0 r1 r2 r3 base n cap W d S A1 (hS.ext hW) (Ce.ext hW)
    have Tw:=fun W (hW:Ext w W)=>Z86 r0 r1 r2 r3 base n cap W e S A1 (hS.ext hW) (Ce.ext hW)
    simp only[hg.markF Cl,hg.markR Cl] at Tv;simp only[hg.markF Vj,hg.markR Vj] at Tw;have i1:=hg.inB Cl;have i2:=hg.inB Vj;have j1:=hg.le Cl;have j2:=hg.le Vj;have hw:=fun s (hs:s∈S)=>(Bv.ok s hs).2.2.1
    have h0:=Bv.h0;have h1:=Bv.h1;have hb:0<=(e - d)*r0/\(e - d)*r0<=99999/\0<=(e - d)*r1/\(e - d)*r1<=99999:=by
     have a:=Int.mul_nonneg (show 0<=e - d by clear G5 Ho;omega) h0;have b:=Int.mul_nonneg (show 0<=e - d by clear G5 Ho;omega) (show 0<=r1 by omega);have c:=Int.mul_le_mul (show e - d<=90 by clear G5 Ho;omega) (show r0<=999 by omega) h0 (by omega);have c':=Int.mul_le_mul (show e - d<=90 by clear G5 Ho;omega) h1.2 (show 0<=r1 by omega) (by omega);clear G5 Ho;omega
    have Jw:((n:Int)==0)=false:=beq_eq_false_iff_ne.2 (by omega);refine ZiN r0 r1 r2 r3 base n cap u1 u2 xa xm xM xw xl wh w Lh Bu Hs Jw D0 (by omega) hu1 X4 hwh d e (Z4L r0 r1 r2 r3 S d).1 (Z4L r0 r1 r2 r3 S d).2 (Z4L r0 r1 r2 r3 S e).1 (Z4L r0 r1 r2 r3 S e).2 _ _ G5 Ho rfl rfl hb ⟨i1.1,j1,i1.2,i2.1,j2,i2.2⟩ Nr S A1 hS hw Tv Tw ?_ ?_ B6
    ·intro W mb mc hW hT;exact ZiC r0 r1 r2 r3 mb (n+1) mc (S++[⟨xa,xm,xM,xw,xl⟩]) d _ _ W (by simp[A1]) hT (Ce.ext hW) (by omega) Cl fun ht=>hg.narrow_more ht Cl
    ·intro k s hs W mb mc hW hT;exact ZiC r0 r1 r2 r3 mb n mc (S.set k (ZiL s)) d _ _ W (by simp[A1]) hT (Ce.ext hW) hz Cl fun ht=>hg.narrow_less hs ht Cl
end Go.Proofs.Tryq
section
set_option maxRecDepth 100000
namespace Go.Proofs.YtedkbdkbbnemlaaGreatDoor
open Go
namespace JarrowGrows
theorem k0:Rows.arrowGrowsRow.wf (OpenSpec.ofChange Rows.arrowGrowsSpec)=true:=by kernel_rfl
theorem k1:laidOutB Tryz.prog=true:=by kernel_rfl
theorem k2:mapsRowed Tryz.prog=true:=by kernel_rfl
theorem k3:Tryz.f9.params.all (Tryz.prog.readableRec ·)=true:=by kernel_rfl
theorem k4:namedTie Tryz.prog Rows.arrowGrowsRow.named Rows.arrowGrowsSpec.vars=true:=by kernel_rfl
theorem k5:(Rows.arrowGrowsRow.stops==[])=true:=by kernel_rfl
theorem k6:(Tryz.prog.stops==[])=true:=by kernel_rfl
theorem k7:(Rows.arrowGrowsRow.knobs==[])=true:=by kernel_rfl
theorem k8:(Tryz.prog.stopKnobs==[])=true:=by kernel_rfl
theorem k9:(Rows.arrowGrowsRow.inPlace==Tryz.prog.inPlace 9)=true:=by kernel_rfl
theorem k10:(Rows.arrowGrowsRow.unfollowed==Tryz.prog.unfollowed 9)=true:=by kernel_rfl
theorem k11:(Rows.arrowGrowsRow.recurses==Tryz.prog.recurses 9)=true:=by kernel_rfl
theorem k12:(Rows.arrowGrowsRow.named==Tryz.prog.varsNamed 9)=true:=by kernel_rfl
theorem k13:(Rows.arrowGrowsRow.maps==(Tryz.f9.params.toList++Rows.arrowGrowsSpec.plain.varTypes Tryz.prog).any (Tryz.prog.mapsRec ·))=true:=by kernel_rfl
theorem k14:(Rows.arrowGrowsRow.ifaces==(Tryz.f9.params.toList++Rows.arrowGrowsSpec.plain.varTypes Tryz.prog).any (Tryz.prog.ifacesRec ·))=true:=by kernel_rfl
theorem k15:(Rows.arrowGrowsRow.mapsOut==Tryz.prog.mapsAmong Tryz.f9.resultTypes.toList)=true:=by kernel_rfl
theorem k16:(Rows.arrowGrowsRow.loops==(Tryz.f9.params.toList++Rows.arrowGrowsSpec.plain.varTypes Tryz.prog).any (Tryz.prog.loopsFrom ·))=true:=by kernel_rfl
theorem k17:(Rows.arrowGrowsRow.wideKeys==(Tryz.f9.params.toList++Rows.arrowGrowsSpec.plain.varTypes Tryz.prog++Tryz.f9.resultTypes.toList).any (Tryz.prog.wideKeysFrom ·))=true:=by kernel_rfl
theorem k18:Rows.arrowGrowsSpec.vars.all (Tryz.prog.varReadable ·)=true:=by kernel_rfl
theorem k19:Tryz.f9.resultTypes.all (fun t=>Tryz.prog.readableRec t&&decide (t<Tryz.prog.types.size))=true:=by kernel_rfl
theorem k20:(Rows.arrowGrowsRow.ifacesOut==Tryz.f9.resultTypes.toList.any (Tryz.prog.ifacesRec ·))=true:=by kernel_rfl
theorem k21:(Rows.arrowGrowsRow.loopsOut==Tryz.f9.resultTypes.toList.any (Tryz.prog.loopsFrom ·))=true:=by kernel_rfl
theorem k22:(Rows.arrowGrowsRow.plainKeys==Tryz.prog.plainKeys)=true:=by kernel_rfl
theorem k23:Rows.arrowGrowsRow.shortTexts.isNone=true:=by kernel_rfl
theorem k24:Tryz.prog.stopsHeard=true:=by kernel_rfl
theorem k25:Tryz.prog.mayEnter=true:=by kernel_rfl
theorem k26:(Rows.arrowGrowsRow.lifted==Tryz.prog.liftsFinal)=true:=by kernel_rfl
theorem k27:(Tryz.prog.make==some Rows.arrowGrowsRow.make)=true:=by kernel_rfl
theorem k28:(Rows.arrowGrowsRow.kinds==(if Rows.arrowGrowsRow.domain.isEmpty then[] else Tryz.f9.params.toList.map fun t=>match Tryz.prog.underlying t with|some (.int k)=>some k|_=>none))=true:=by kernel_rfl
theorem k29:(Rows.arrowGrowsRow.pinned==Rows.arrowGrowsRow.pinnedBy)=true:=by kernel_rfl
theorem k30:(Rows.arrowGrowsRow.veiled==(Tryz.f9.params.toList++Rows.arrowGrowsSpec.plain.varTypes Tryz.prog++Tryz.f9.resultTypes.toList).any (Tryz.prog.veiledRec ·))=true:=by kernel_rfl
theorem k31:Rows.arrowGrowsRow.veiledFits Tryz.prog Tryz.f9.params.toList (Tryz.f9.params.toList++Rows.arrowGrowsSpec.plain.varTypes Tryz.prog++Tryz.f9.resultTypes.toList)=true:=by kernel_rfl
theorem ZI{a b:Bool}(ha:a=true)(hb:b=true):(a&&b)=true:=by rw[ha,hb];rfl
theorem facts:joinedFacts Tryz.prog 9 Tryz.f9 Rows.arrowGrowsSpec Rows.arrowGrowsRow=true:=(ZI (ZI (ZI (ZI (ZI (ZI (ZI (ZI (ZI (ZI (ZI (ZI (ZI (ZI (ZI (ZI (ZI (ZI (ZI (ZI (ZI (ZI (ZI (ZI (ZI (ZI (ZI (ZI (ZI (ZI (ZI k0 k1) k2) k3) k4) k5) k6) k7) k8) k9) k10) k11) k12) k13) k14) k15) k16) k17) k18) k19) k20) k21) k22) k23) k24) k25) k26) k27) k28) k29) k30) k31)
end JarrowGrows
end Go.Proofs.YtedkbdkbbnemlaaGreatDoor
end
namespace Go.Proofs.Tryq
set_option maxRecDepth 100000
open Go Go.Nk Go.RowKit Go.ChangeShapes Go.WideShapes Go.ChangeAt Go.Conc Go.Deep
attribute [local instance] theBan
section
variable {H:Type} {enc:TypeId×Value->H} {W:World} {b0:Nat}
theorem Zf4{t:TypeId}{k:IntKind}(hu:Tryz.prog.underlying t=some (.int k))(hs:isS Tryz.prog t=false)(ha:isA Tryz.prog t=false)(hl:(Z3e Tryz.prog 0 t 0).any (fun y=>y.1==0&&y.2==t)=true)(Eh:Tryz.prog.cellsOf t=1){v:Value}{d:DataW H}{p:List MemPlace}(hv:Value.okWide Tryz.prog W .any b0 t v)(h:DataW.Trod enc Tryz.prog W 0 (fun _=>true) true t v d p):
 ∃n:Int,v= .int k n/\(Lit.int k n).wf=true/\VRel id (Nk.Live (Zx W)) v v:=by
 have hc:=Zei hv hs ha;obtain⟨fuel,hf⟩:=h;have e:v.cells.toList=[v]:=by
  cases v<;>first|rfl|skip
  rename_i cs;simp[Cell.okWide,Cell.ok,hu] at hc
 rw[e] at hf;have Ae:[v].length<=Tryz.prog.cellsOf t:=by rw[Eh];exact Nat.le_refl _
 obtain⟨x1,e1,hw⟩:=Z0z (n:=0) (o:=0) (u:=t) Ae ⟨_,_,hf⟩ hl hu;obtain rfl:v= .int k x1:=by simpa using e1
 exact⟨x1,rfl,hw,.int _ _⟩
theorem Zgg{n:Int}(h:(Lit.int .u8 n).wf=true):0<=n/\n<256:=by
 have h1:IntKind.u8.min=0:=rfl;have h2:IntKind.u8.max=255:=rfl;simp only[Lit.wf,Bool.and_eq_true,decide_eq_true_eq] at h;omega
theorem ZfW{v:Value}{d:DataW H}{p:List MemPlace}(hv:Value.okWide Tryz.prog W .any b0 5 v)(h:DataW.Trod enc Tryz.prog W 0 (fun _=>true) true 5 v d p):∃n:Int,v= .int .u8 n/\(Lit.int .u8 n).wf=true/\VRel id (Nk.Live (Zx W)) v v:=
 Zf4 under5 (by kernel_rfl) (by kernel_rfl) (by kernel_rfl) (by kernel_rfl) hv h
theorem under68:Tryz.prog.underlying 68=some (.slice 80):=by kernel_rfl
theorem cells80:Tryz.prog.cellsOf 80=5:=by kernel_rfl
theorem cells70:Tryz.prog.cellsOf 70=5:=by kernel_rfl
theorem Zg3{v:Value}{k:Nat}{x:DataW H×List MemPlace}(hv:∃u,Cell.okWide Tryz.prog W .any b0 u v)(h:DataW.trod enc Tryz.prog W 0 (fun _=>true) true k 68 [v]=some x):
 ∃(base:Option Addr)(n cap:Nat)(S:List Rs),v= .slice base n cap/\S.length=n/\n<=cap/\cap<=maxLen/\VRel id (Nk.Live (Zx W)) v v/\RawS W base S/\∀s∈S,(Lit.int .i64 s.a).wf=true/\(Lit.int .i64 s.m).wf=true/\(Lit.int .i64 s.M).wf=true/\(Lit.int .i64 s.wi).wf=true/\(Lit.int .i64 s.li).wf=true:=by
 obtain⟨base,n,cap,e,hn,hm,hr,Uk⟩:=Z5V under68 cells80 (by decide) hv h;have key:∀i,i<n->∃s:Rs,(∃b off,base=some ⟨b,off,none⟩/\b<W.heap.size/\ShotAt W b (off+i*5) s.a s.m s.M s.wi s.li)/\((Lit.int .i64 s.a).wf=true/\(Lit.int .i64 s.m).wf=true/\(Lit.int .i64 s.M).wf=true/\(Lit.int .i64 s.wi).wf=true/\(Lit.int .i64 s.li).wf=true):=by
  intro i hi;obtain⟨b,off,h1,h2,cs,h3,h4,h5⟩:=Uk i hi;have Ae:cs.length<=Tryz.prog.cellsOf 80:=by rw[cells80];omega
  obtain⟨x0,e0,w0⟩:=Z0z (n:=3) (o:=0) (u:=3) Ae h5 (by kernel_rfl) under3;obtain⟨x1,e1,w1⟩:=Z0z (n:=3) (o:=1) (u:=3) Ae h5 (by kernel_rfl) under3;obtain⟨x2,e2,w2⟩:=Z0z (n:=3) (o:=2) (u:=3) Ae h5 (by kernel_rfl) under3;obtain⟨x3,e3,w3⟩:=Z0z (n:=3) (o:=3) (u:=3) Ae h5 (by kernel_rfl) under3;obtain⟨x4,e4,w4⟩:=Z0z (n:=3) (o:=4) (u:=3) Ae h5 (by kernel_rfl) under3;exact⟨⟨x0,x1,x2,x3,x4⟩,⟨b,off,h1,h2,⟨(h4 0 (by omega)).trans e0,(h4 1 (by omega)).trans e1,(h4 2 (by omega)).trans e2,(h4 3 (by omega)).trans e3,(h4 4 (by omega)).trans e4⟩⟩,w0,w1,w2,w3,w4⟩
 obtain⟨L,Cd,Ui⟩:=Zaa n key;exact⟨base,n,cap,L,e,Cd,hn,hm,hr,fun i x hx=>(Ui i x hx).1,fun s hs=>by obtain⟨i,hi⟩:=List.mem_iff_getElem?.1 hs;exact(Ui i s hi).2⟩
theorem open_card{v:Value}{d:DataW H}{p:List MemPlace}(hv:Value.okWide Tryz.prog W .any b0 70 v)(h:DataW.Trod enc Tryz.prog W 0 (fun _=>true) true 70 v d p):
 ∃(r0 r1 r2 r3:Int)(base:Option Addr)(n cap:Nat)(S:List Rs),v= .agg #[.int .i64 r0,.int .i64 r1,.int .i64 r2,.int .i64 r3,.slice base n cap]/\S.length=n/\n<=cap/\cap<=maxLen/\VRel id (Nk.Live (Zx W)) v v/\RawS W base S/\
  ((Lit.int .i64 r0).wf=true/\(Lit.int .i64 r1).wf=true/\(Lit.int .i64 r2).wf=true/\(Lit.int .i64 r3).wf=true)/\∀s∈S,(Lit.int .i64 s.a).wf=true/\(Lit.int .i64 s.m).wf=true/\(Lit.int .i64 s.M).wf=true/\(Lit.int .i64 s.wi).wf=true/\(Lit.int .i64 s.li).wf=true:=by
 obtain⟨cs,rfl,hs,hx⟩:=ZiU hv (by kernel_rfl);obtain⟨fuel,hf⟩:=h;have hf:DataW.trod enc Tryz.prog W 0 (fun _=>true) true fuel 70 cs.toList=some (d,p):=hf;rw[cells70] at hs;have Ae:cs.toList.length<=Tryz.prog.cellsOf 70:=by rw[cells70];simp[hs]
 obtain⟨x0,e0,w0⟩:=Z0z (n:=2) (o:=0) (u:=3) Ae ⟨_,_,hf⟩ (by kernel_rfl) under3;obtain⟨x1,e1,w1⟩:=Z0z (n:=2) (o:=1) (u:=3) Ae ⟨_,_,hf⟩ (by kernel_rfl) under3;obtain⟨x2,e2,w2⟩:=Z0z (n:=2) (o:=2) (u:=3) Ae ⟨_,_,hf⟩ (by kernel_rfl) under3;obtain⟨x3,e3,w3⟩:=Z0z (n:=2) (o:=3) (u:=3) Ae ⟨_,_,hf⟩ (by kernel_rfl) under3;obtain⟨sv,m,y,e4,h4⟩:=Z7R (n:=2) (o:=4) (u:=68) Ae ⟨_,_,hf⟩ (by kernel_rfl) under68;obtain⟨base,n,cap,S,rfl,hL,hn,hm,hr,hR,hw⟩:=Zg3 (hx 4 sv (by simpa using e4)) h4;have Ou:=arr5 hs e0 e1 e2 e3 e4;subst Ou
 have hA:AR id (Nk.Live (Zx W)) #[.int .i64 x0,.int .i64 x1,.int .i64 x2,.int .i64 x3,.slice base n cap] #[.int .i64 x0,.int .i64 x1,.int .i64 x2,.int .i64 x3,.slice base n cap]:=
  ((((AR.nil.push (.int _ _)).push (.int _ _)).push (.int _ _)).push (.int _ _)).push hr
 exact⟨x0,x1,x2,x3,base,n,cap,S,rfl,hL,hn,hm,.agg hA.1 hA.2,hR,⟨w0,w1,w2,w3⟩,hw⟩
end
theorem ZfV{W:World}{base:Option Addr}{S:List Rs}(h:RawS W base S):RawS (Zx W) base S:=fun i x hi=>by
 obtain⟨b,off,h1,h2,h3⟩:=h i x hi;exact⟨b,off,h1,by rw[Z1l];exact h2,⟨Z0d rfl h3.c0 rfl,Z0d rfl h3.c1 rfl,Z0d rfl h3.c2 rfl,Z0d rfl h3.c3 rfl,Z0d rfl h3.c4 rfl⟩⟩
theorem Zg8{W:World}(t){base:Option Addr}{S:List Rs}(h:RawS W base S):RawS (retape t W) base S:=fun i x hi=>by
 obtain⟨b,off,h1,h2,h3⟩:=h i x hi;exact⟨b,off,h1,h2,⟨h3.c0,h3.c1,h3.c2,h3.c3,h3.c4⟩⟩
section
variable {H:Type} {enc:TypeId×Value->H} {W:World} {b0:Nat}
theorem ZiP{v:Value}{d:DataW H}{p:List MemPlace}(hv:Value.okWide Tryz.prog W .any b0 80 v)(h:DataW.Trod enc Tryz.prog W 0 (fun _=>true) true 80 v d p):
 ∃a m M wi li:Int,v= .agg #[.int .i64 a,.int .i64 m,.int .i64 M,.int .i64 wi,.int .i64 li]/\VRel id (Nk.Live (Zx W)) v v:=by
 obtain⟨cs,rfl,hs,hx⟩:=ZiU hv (by kernel_rfl);obtain⟨fuel,hf⟩:=h;have hf:DataW.trod enc Tryz.prog W 0 (fun _=>true) true fuel 80 cs.toList=some (d,p):=hf;rw[cells80] at hs;have Ae:cs.toList.length<=Tryz.prog.cellsOf 80:=by rw[cells80];simp[hs]
 obtain⟨x0,e0,w0⟩:=Z0z (n:=3) (o:=0) (u:=3) Ae ⟨_,_,hf⟩ (by kernel_rfl) under3;obtain⟨x1,e1,w1⟩:=Z0z (n:=3) (o:=1) (u:=3) Ae ⟨_,_,hf⟩ (by kernel_rfl) under3;obtain⟨x2,e2,w2⟩:=Z0z (n:=3) (o:=2) (u:=3) Ae ⟨_,_,hf⟩ (by kernel_rfl) under3;obtain⟨x3,e3,w3⟩:=Z0z (n:=3) (o:=3) (u:=3) Ae ⟨_,_,hf⟩ (by kernel_rfl) under3;obtain⟨x4,e4,w4⟩:=Z0z (n:=3) (o:=4) (u:=3) Ae ⟨_,_,hf⟩ (by kernel_rfl) under3;have Ou:=arr5 hs e0 e1 e2 e3 e4;subst Ou
 have hA:AR id (Nk.Live (Zx W)) #[.int .i64 x0,.int .i64 x1,.int .i64 x2,.int .i64 x3,.int .i64 x4] #[.int .i64 x0,.int .i64 x1,.int .i64 x2,.int .i64 x3,.int .i64 x4]:=
  ((((AR.nil.push (.int _ _)).push (.int _ _)).push (.int _ _)).push (.int _ _)).push (.int _ _)
 exact⟨x0,x1,x2,x3,x4,rfl,.agg hA.1 hA.2⟩
theorem ZiK{P:Program}{w:World}{base:Nat}{spare:Nat->Bool}{held:Bool}{t t' t'' t3 t4:TypeId}{args:Array Value}{ds:List (DataW H)}{ps:List MemPlace}(h:DataW.TrodAll enc P w base spare held [t,t',t'',t3,t4] args.toList ds ps):
 ∃v v' v'' v3 v4 d d' d'' d3 d4 p p' p'' p3 p4,args= #[v,v',v'',v3,v4]/\ds=[d,d',d'',d3,d4]/\ps=p++p'++p''++p3++p4/\DataW.Trod enc P w base spare held t v d p/\DataW.Trod enc P w base spare held t' v' d' p'/\DataW.Trod enc P w base spare held t'' v'' d'' p''/\DataW.Trod enc P w base spare held t3 v3 d3 p3/\DataW.Trod enc P w base spare held t4 v4 d4 p4:=by
 obtain⟨v,vs,d,ds',p,q,Ie,rfl,rfl,hd,U3⟩:=trodAll_cons h;obtain⟨v',vs',d',ds'',p',q',rfl,rfl,rfl,hd',Ov⟩:=trodAll_cons U3;obtain⟨v'',vs'',d'',ds''',p'',q'',rfl,rfl,rfl,hd'',Li⟩:=trodAll_cons Ov;obtain⟨v3,vs3,d3,ds3,p3,q3,rfl,rfl,rfl,hd3,Ow⟩:=trodAll_cons Li;obtain⟨v4,vs4,d4,ds4,p4,q4,rfl,rfl,rfl,hd4,Ox⟩:=trodAll_cons Ow;obtain⟨rfl,rfl,rfl⟩:=trodAll_nil Ox;exact⟨v,v',v'',v3,v4,d,d',d'',d3,d4,p,p',p'',p3,p4,by cases args;simp_all,rfl,by simp,hd,hd',hd'',hd3,hd4⟩
end
end Go.Proofs.Tryq
namespace Go.Proofs.YtedkbdkbbnemlaaGreatDoor
set_option maxRecDepth 100000
open Go Go.Nk Go.RowKit Go.ChangeShapes Go.WideShapes Go.ChangeAt Go.Conc
open Go.Proofs.Tryq
attribute [local instance] theBan
theorem ZiB(os:Os)(started:os.Started)(H:Type)(enc:TypeId×Value->H):
 ReturnsInLeavingWide {} Tryz.checked os 9 .any (fun w args=>(Rows.arrowGrowsSpec.pre enc Tryz.prog Tryz.f9 [] false w args/\laidMetH Tryz.prog laidL w)/\sizedMet enc Tryz.prog Tryz.f9 (OpenSpec.ofChange Rows.arrowGrowsSpec) false w args)
  (Rows.arrowGrowsSpec.post enc Tryz.prog Tryz.f9 false true false false):=by
 refine Z4e (n:=5) (ts:=[70,5,5,80,5]) started (by simp[keptList]) Tryz.func9 same9 (by kernel_rfl) Tryz.results9 (by kernel_rfl) (by rw[Tryz.params9]) rfl rfl (by kernel_rfl) (fun ds hd=>by
  match ds,hd with
  |[_,_,_,_,_],_=>rfl) (by kernel_rfl)
  (ChangeSpec.witness_shaped (enc:=enc) (C:=Tryz.checked) (os:=os) (X:=fun w _=>laidMetH Tryz.prog laidL w) false (World.doorLaid Tryz.prog 400 os) #[.agg #[.int .i64 0,.int .i64 0,.int .i64 0,.int .i64 0,.slice none 0 0],.int .u8 0,.int .u8 0,.agg #[.int .i64 0,.int .i64 0,.int .i64 0,.int .i64 0,.int .i64 0],.int .u8 0] 8 rfl (Z3F os _) (by kernel_rfl) (by kernel_rfl) (by kernel_rfl) (Z7C os _)) ?_
 intro W base args ds p Ed hA hM Ce hd;rw[Tryz.params9] at Ed;obtain⟨v0,v1,v2,v3,v4,dx0,dx1,dx2,dx3,dx4,px0,px1,px2,px3,px4,rfl,rfl,rfl,h0,h1,h2,h3,h4⟩:=ZiK hA;obtain⟨a0,b0,c0,d0,ab0,n0,k0,S0,rfl,hL0,Jw,C5,E7,J6,Mm,Be⟩:=open_card (Ed 0 70 v0 rfl rfl) h0;obtain⟨u1,rfl,Lu,Di⟩:=ZfW (Ed 1 5 v1 rfl rfl) h1;obtain⟨u2,rfl,Fe,D6⟩:=ZfW (Ed 2 5 v2 rfl rfl) h2;obtain⟨a3,b3,c3,d3,e3,rfl,El⟩:=ZiP (Ed 3 80 v3 rfl rfl) h3;obtain⟨u4,rfl,K4,hr4⟩:=ZfW (Ed 4 5 v4 rfl rfl) h4;refine⟨((((AR.nil.push E7).push Di).push D6).push El).push hr4,fun t=> ?_⟩;exact ZiF a0 b0 c0 d0 ab0 n0 k0 u1 u2 a3 b3 c3 d3 e3 u4 S0 (retape t (Zx W)) hL0 (Zgg Lu) (Zgg Fe) (Zgg K4) hM (Za7 t Ce) hd (Zg8 t (ZfV J6))
theorem arrowGrows_row:Rows.ArrowGrowsSaid:=
 OpenClaim.holds_of_wide_leaving 9 Tryz.f9 rfl rfl rfl rfl rfl rfl rfl ⟨rfl,rfl,rfl,rfl,rfl⟩ rfl rfl rfl rfl rfl (by kernel_rfl) Tryz.func9 JarrowGrows.facts
  (of_decide_eq_true (by kernel_rfl)) (by unfold Func.isWrapper;first|(rw[if_pos (by decide+kernel)];kernel_rfl)|(rw[if_neg (by decide+kernel)];exact⟨rfl,rfl⟩))
  (fun os started H enc _=>ZiB os started H enc)
theorem arrowGrows_card:Rows.ArrowGrowsCardSaid:=
 Zac .later [.data,.data,.data,.funcs] true (true,"0e1059176c690520e63ed0d32383d6ff1680ebd08dcb3a61820afc84c46f7b58") false
  arrowGrows_row (by kernel_rfl) arrowGrows_row_tie rfl ⟨rfl,rfl⟩ (by kernel_rfl) rfl
  (fun f fn hf hfn=>by
    obtain rfl:f=9:=Option.some.inj ((show Tryz.prog.funcNamed "nock/nocklaw01.ArrowGrows" =some 9 by kernel_rfl).symm.trans hf) |>.symm
    obtain rfl:fn=Tryz.f9:=(Option.some.inj (Tryz.func9.symm.trans hfn)).symm
    exact⟨by kernel_rfl,fun j t ht=>by
     rw[Tryz.params9] at ht;have hm:t∈[70,5,5,80,5]:=(by simpa using Array.mem_of_getElem? ht);have Ak:([70,5,5,80,5].all fun u=> !Tryz.prog.wantsStandIn u)=true:=(by kernel_rfl);exact(show Tryz.prog.wantsStandIn t=false by simpa using List.all_eq_true.1 Ak t hm)⟩)
  (by kernel_rfl)
end Go.Proofs.YtedkbdkbbnemlaaGreatDoor
