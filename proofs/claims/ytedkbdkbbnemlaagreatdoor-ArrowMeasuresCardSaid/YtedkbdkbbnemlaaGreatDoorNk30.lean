/- nocklaw01.ArrowMeasures: for every stock, shaft, span and what is measured the call returns true, on every schedule and without a data race; its arguments read afterwards as they read before; nothing that was in memory is changed; at the return no other goroutine does more than leave. The card ties the four listed package variables to the program's text. Conditions: none beyond the card's own (the listed variables hold what the program's text lays). The texts of this claim were shortened by program (no remarks, short names) to fit the bounds on a claim's size; their long form lies in the repository's folder wip. -/
import Derived.Test.YtedkbdkbbnemlaaGreatDoorNk29
import Derived.Carry
import Derived.JoinedOf
import Derived.KernelRfl
import Derived.Test.YtedkbdkbbnemlaaGreatDoorRows
set_option linter.all false
namespace Go.Proofs.Tryq
set_option maxRecDepth 100000
set_option maxHeartbeats 8000000
open Go Go.Nk Go.RowKit
set_option linter.all false
theorem box4(w:World)(A B C D:Obj):Ext w ((((w.alloc A).alloc B).alloc C).alloc D)/\((((w.alloc A).alloc B).alloc C).alloc D).heap[w.heap.size]? =some A/\((((w.alloc A).alloc B).alloc C).alloc D).heap[w.heap.size+1]? =some B/\((((w.alloc A).alloc B).alloc C).alloc D).heap[w.heap.size+1+1]? =some C/\((((w.alloc A).alloc B).alloc C).alloc D).heap[w.heap.size+1+1+1]? =some D:=by
 obtain⟨h1,h2,h3,h4⟩:=Zlg w A B C;have hX:=(Ext.rfl' (((w.alloc A).alloc B).alloc C)).alloc D;exact⟨h1.alloc _,hX.get h2,hX.get h3,hX.get h4,by rw[Z3,if_pos (by simp only[Z2])]⟩
theorem ZkZ(a b c m p q:Int)(base:Option Addr)(n cap:Nat)(L:List Sf)(w:World)(A2:L.length=n)(hn:n<=20)(hM:Meas w)(hS:RawA w base L)(i k:Int)(h:Zo a b c m L [i]≠0):
 Calls prog 73 #[.agg #[.int .i64 a,.int .i64 b,.int .i64 c,.int .i64 m,.slice base n cap],.int .i64 i,.int .i64 k,.agg #[.int .i64 p,.int .i64 q]] w fun e w'=>e= .returned (.tuple #[.agg #[.int .i64 0,.int .i64 0,.int .i64 0,.int .i64 0,.slice none 0 0],.int .i64 (Zo a b c m L [i])])/\Ext w w':=by
 have ho:=fun W (hW:Ext w W) ad hl=>Z3c a b c m base n cap L ad 1 1 [i] W A2 hn rfl (by omega) (hM.ext hW) (hS.ext hW) hl
 have A8:(Zo a b c m L [i] !=0)=true:=by simpa using h
 generalize Zo a b c m L [i]=f at ho A8⊢;clear h hS;obtain⟨B0,D3,Bj,E1,Hi⟩:=box4 w (.cells #[.int .i64 a,.int .i64 b,.int .i64 c,.int .i64 m,.slice base n cap] 26) (.cells #[.int .i64 p,.int .i64 q] 48) (.cells #[.int .i64 0,.int .i64 0,.int .i64 0,.int .i64 0,.slice none 0 0] 26) (.cells #[.int .i64 i] 3);go_enter func73,ntmps73
 go_wp2_with (first
  |(go_at_call 86;refine(ho _ B0 _ (Z7I Hi)).mono ?_;rintro e w2 ⟨rfl,hF⟩
    have As:=B0.trans hF;have hG:=(Ext.rfl' w2).alloc (.cells #[.int .i64 a,.int .i64 b,.int .i64 c,.int .i64 m,.slice base n cap] 120);have hE:=As.trans hG;have hr:=hG.get (hF.get D3);have hp:=hG.get (hF.get Bj);have hz:=hG.get (hF.get E1);clear hF hG;obtain⟨q0,q1,q2,q3,q4⟩:=Zgj hr;have y:=Zc hp;have y0:=y.1;have y1:=y.2.1;obtain⟨z0,z1,z2,z3,z4⟩:=Zgj hz;obtain⟨f0,f1,f2,f3,f4⟩:=ZiJ hz))
 obtain⟨k0,k1,k2,k3,k4⟩:=Zgj (ZiD hz (.int .i64 0) (.int .i64 0) (.int .i64 0) (.int .i64 0) (.slice none 0 0));simp only[ZjW] at k0 k1 k2 k3 k4;refine bodyPost_ret (v:= .tuple #[.agg #[.int .i64 0,.int .i64 0,.int .i64 0,.int .i64 0,.slice none 0 0],.int .i64 f]) ((Z01 rfl _ _ _).trans ?_) rfl ⟨rfl,ZiE hE (show w.heap.size<=w.heap.size+1+1 by omega) _ _ _ _ _⟩;simp[go_sem,k0,k1,k2,k3,k4]
theorem Zl0(a b c m p q:Int)(base:Option Addr)(n cap:Nat)(L:List Sf)(w:World)(A2:L.length=n)(hn:n<=20)(hM:Meas w)(hS:RawA w base L)(i k:Int)(h:Zo a b c m L [i]=0)(hk:¬(0<=k/\k<=2)):
 Calls prog 73 #[.agg #[.int .i64 a,.int .i64 b,.int .i64 c,.int .i64 m,.slice base n cap],.int .i64 i,.int .i64 k,.agg #[.int .i64 p,.int .i64 q]] w fun e w'=>e= .returned (.tuple #[.agg #[.int .i64 0,.int .i64 0,.int .i64 0,.int .i64 0,.slice none 0 0],.int .i64 1])/\Ext w w':=by
 have ho:=fun W (hW:Ext w W) ad hl=>Z3c a b c m base n cap L ad 1 1 [i] W A2 hn rfl (by omega) (hM.ext hW) (hS.ext hW) hl
 have hB:=fun W=>Z09 k 0 2 W
 rw[decide_eq_false hk] at hB;simp only[h] at ho;clear h hS;obtain⟨B0,D3,Bj,E1,Hi⟩:=box4 w (.cells #[.int .i64 a,.int .i64 b,.int .i64 c,.int .i64 m,.slice base n cap] 26) (.cells #[.int .i64 p,.int .i64 q] 48) (.cells #[.int .i64 0,.int .i64 0,.int .i64 0,.int .i64 0,.slice none 0 0] 26) (.cells #[.int .i64 i] 3);go_enter func73,ntmps73
 go_wp2_with (first
  |(go_at_call 86;refine(ho _ B0 _ (Z7I Hi)).mono ?_;rintro e w2 ⟨rfl,hF⟩
    have As:=B0.trans hF;have hG:=(Ext.rfl' w2).alloc (.cells #[.int .i64 a,.int .i64 b,.int .i64 c,.int .i64 m,.slice base n cap] 120);have hE:=As.trans hG;have hr:=hG.get (hF.get D3);have hp:=hG.get (hF.get Bj);have hz:=hG.get (hF.get E1);clear hF hG;obtain⟨q0,q1,q2,q3,q4⟩:=Zgj hr;have y:=Zc hp;have y0:=y.1;have y1:=y.2.1;obtain⟨z0,z1,z2,z3,z4⟩:=Zgj hz;obtain⟨f0,f1,f2,f3,f4⟩:=ZiJ hz)
  |(go_at_call 110;refine(hB _).mono ?_;rintro e w3 ⟨rfl,D4⟩;cases D4))
 obtain⟨k0,k1,k2,k3,k4⟩:=Zgj (ZiD hz (.int .i64 0) (.int .i64 0) (.int .i64 0) (.int .i64 0) (.slice none 0 0));simp only[ZjW] at k0 k1 k2 k3 k4;refine bodyPost_ret (v:= .tuple #[.agg #[.int .i64 0,.int .i64 0,.int .i64 0,.int .i64 0,.slice none 0 0],.int .i64 1]) ((Z01 rfl _ _ _).trans ?_) rfl ⟨rfl,ZiE hE (show w.heap.size<=w.heap.size+1+1 by omega) _ _ _ _ _⟩;simp[go_sem,k0,k1,k2,k3,k4]
theorem Zl1(a b c m p q:Int)(base:Option Addr)(n cap:Nat)(L:List Sf)(w:World)(A2:L.length=n)(hn:n<=20)(hM:Meas w)(hS:RawA w base L)(i k:Int)(h:Zo a b c m L [i]=0)(hk:0<=k/\k<=2)(Du:¬(0<=p/\p<=q/\q<=9999)):
 Calls prog 73 #[.agg #[.int .i64 a,.int .i64 b,.int .i64 c,.int .i64 m,.slice base n cap],.int .i64 i,.int .i64 k,.agg #[.int .i64 p,.int .i64 q]] w fun e w'=>e= .returned (.tuple #[.agg #[.int .i64 0,.int .i64 0,.int .i64 0,.int .i64 0,.slice none 0 0],.int .i64 1])/\Ext w w':=by
 have ho:=fun W (hW:Ext w W) ad hl=>Z3c a b c m base n cap L ad 1 1 [i] W A2 hn rfl (by omega) (hM.ext hW) (hS.ext hW) hl
 have hB:=fun W=>Z09 k 0 2 W
 have hI:=fun W=>Z84 p q 0 9999 W
 rw[decide_eq_true hk] at hB;rw[decide_eq_false Du] at hI;simp only[h] at ho;clear h hS Du;obtain⟨B0,D3,Bj,E1,Hi⟩:=box4 w (.cells #[.int .i64 a,.int .i64 b,.int .i64 c,.int .i64 m,.slice base n cap] 26) (.cells #[.int .i64 p,.int .i64 q] 48) (.cells #[.int .i64 0,.int .i64 0,.int .i64 0,.int .i64 0,.slice none 0 0] 26) (.cells #[.int .i64 i] 3);go_enter func73,ntmps73
 go_wp2_with (first
  |(go_at_call 86;refine(ho _ B0 _ (Z7I Hi)).mono ?_;rintro e w2 ⟨rfl,hF⟩
    have As:=B0.trans hF;have hG:=(Ext.rfl' w2).alloc (.cells #[.int .i64 a,.int .i64 b,.int .i64 c,.int .i64 m,.slice base n cap] 120);have hE:=As.trans hG;have hr:=hG.get (hF.get D3);have hp:=hG.get (hF.get Bj);have hz:=hG.get (hF.get E1);clear hF hG;obtain⟨q0,q1,q2,q3,q4⟩:=Zgj hr;have y:=Zc hp;have y0:=y.1;have y1:=y.2.1;obtain⟨z0,z1,z2,z3,z4⟩:=Zgj hz;obtain⟨f0,f1,f2,f3,f4⟩:=ZiJ hz)
  |(go_at_call 110;refine(hB _).mono ?_;rintro e w3 ⟨rfl,D4⟩;cases D4)
  |(go_at_call 129;refine(hI _).mono ?_;rintro e w3 ⟨rfl,hF⟩
    replace hE:=hE.trans hF;replace hr:=hF.get hr;replace hp:=hF.get hp;replace hz:=hF.get hz;clear hF y y0 y1 q0 q1 q2 q3 q4 z0 z1 z2 z3 z4 f0 f1 f2 f3 f4;obtain⟨q0,q1,q2,q3,q4⟩:=Zgj hr;have y:=Zc hp;have y0:=y.1;have y1:=y.2.1;obtain⟨z0,z1,z2,z3,z4⟩:=Zgj hz;obtain⟨f0,f1,f2,f3,f4⟩:=ZiJ hz))
 obtain⟨k0,k1,k2,k3,k4⟩:=Zgj (ZiD hz (.int .i64 0) (.int .i64 0) (.int .i64 0) (.int .i64 0) (.slice none 0 0));simp only[ZjW] at k0 k1 k2 k3 k4;refine bodyPost_ret (v:= .tuple #[.agg #[.int .i64 0,.int .i64 0,.int .i64 0,.int .i64 0,.slice none 0 0],.int .i64 1]) ((Z01 rfl _ _ _).trans ?_) rfl ⟨rfl,ZiE hE (show w.heap.size<=w.heap.size+1+1 by omega) _ _ _ _ _⟩;simp[go_sem,k0,k1,k2,k3,k4]
theorem ZkK(a b c m p q P1 P2 U V:Int)(bs off n cap:Nat)(L:List Sf)(x:Sf)(i k f K:Nat)(w:World)(A2:L.length=n)(hn:n<=20)(hM:Meas w)(hS:RawA w (some ⟨bs,off,none⟩) L)(h:Zo a b c m L [(i:Int)]=0)(hi:i<n)(hk:k<3)(hK:K=1+2*k)(Du:0<=p/\p<=q/\q<=9999)(hx:L[i]? =some x)(Kt:(spA x k).1=P1)(Gh:(spA x k).2=P2)(hU:max P1 p=U)(hV:min P2 q=V)
 (g0:w.cell? ⟨0,k*2,none⟩=some (.func (.func f) #[] #[]))
 (hf:∀b off W,Calls prog f #[.pointer (some ⟨b,off,none⟩)] W fun e w'=>e= .returned (.pointer (some ⟨b,off+K,none⟩))/\Ext W w')
 (F6:∀args w,(callFunc f args).run prog w= .ok (.enter f args) w):
 Calls prog 73 #[.agg #[.int .i64 a,.int .i64 b,.int .i64 c,.int .i64 m,.slice (some ⟨bs,off,none⟩) n cap],.int .i64 i,.int .i64 k,.agg #[.int .i64 p,.int .i64 q]] w fun e w'=>(V<U->e= .returned (.tuple #[.agg #[.int .i64 0,.int .i64 0,.int .i64 0,.int .i64 0,.slice none 0 0],.int .i64 10]))/\(U<=V->∃g' cap',e= .returned (.tuple #[.agg #[.int .i64 a,.int .i64 b,.int .i64 c,.int .i64 m,.slice (some ⟨g',0,none⟩) n cap'],.int .i64 0])/\n<=cap'/\w.heap.size<=g'/\RawA w' (some ⟨g',0,none⟩) (Zla L i k (U,V)))/\Ext w w':=by
 have ho:=fun W (hW:Ext w W) ad hl=>Z3c a b c m (some ⟨bs,off,none⟩) n cap L ad 1 1 [(i:Int)] W A2 hn rfl (by omega) (hM.ext hW) (hS.ext hW) hl
 have hB:=fun W=>Z09 (k:Int) 0 2 W
 have hI:=fun W=>Z84 p q 0 9999 W
 have Ae:=fun W=>Z7i P1 P2 p q W
 have Io:=fun W (hW:Ext w W)=>Zl4 (some ⟨bs,off,none⟩) n cap L W A2 (by omega) (by omega) (hS.ext hW)
 have I5:=hS.size;replace hK:Hid (K=1+2*k):=hK;rw[decide_eq_true Du] at hI;rw[decide_eq_true (show(0:Int)<=(k:Int)/\(k:Int)<=2 by omega)] at hB;simp only[h] at ho;rw[hU,hV] at Ae;have Dy:(i:Int)<(n:Int):=by omega
 clear h hS Du hU hV;obtain⟨B0,D3,Bj,E1,Hi⟩:=box4 w (.cells #[.int .i64 a,.int .i64 b,.int .i64 c,.int .i64 m,.slice (some ⟨bs,off,none⟩) n cap] 26) (.cells #[.int .i64 p,.int .i64 q] 48) (.cells #[.int .i64 0,.int .i64 0,.int .i64 0,.int .i64 0,.slice none 0 0] 26) (.cells #[.int .i64 i] 3);go_enter func73,ntmps73
 go_wp2_with (first
  |(go_at_call 86;refine(ho _ B0 _ (Z7I Hi)).mono ?_;rintro e w2 ⟨rfl,hF⟩
    have As:=B0.trans hF;have hG:=(Ext.rfl' w2).alloc (.cells #[.int .i64 a,.int .i64 b,.int .i64 c,.int .i64 m,.slice (some ⟨bs,off,none⟩) n cap] 120);have hE:=As.trans hG;have hr:=hG.get (hF.get D3);have hp:=hG.get (hF.get Bj);have hz:=hG.get (hF.get E1);clear hF hG;obtain⟨q0,q1,q2,q3,q4⟩:=Zgj hr;have y:=Zc hp;have y0:=y.1;have y1:=y.2.1;obtain⟨z0,z1,z2,z3,z4⟩:=Zgj hz;obtain⟨f0,f1,f2,f3,f4⟩:=ZiJ hz)
  |(go_at_call 110;refine(hB _).mono ?_;rintro e w3 ⟨rfl,D4⟩;cases D4)
  |(go_at_call 129;refine(hI _).mono ?_;rintro e w3 ⟨rfl,hF⟩
    replace hE:=hE.trans hF;replace hr:=hF.get hr;replace hp:=hF.get hp;replace hz:=hF.get hz;clear hF y y0 y1 q0 q1 q2 q3 q4 z0 z1 z2 z3 z4 f0 f1 f2 f3 f4;obtain⟨q0,q1,q2,q3,q4⟩:=Zgj hr;have y:=Zc hp;have y0:=y.1;have y1:=y.2.1;obtain⟨z0,z1,z2,z3,z4⟩:=Zgj hz;obtain⟨f0,f1,f2,f3,f4⟩:=ZiJ hz)
  |(go_at_call 130;refine(Io _ hE).mono ?_;rintro e w4 ⟨g',cp',rfl,Ak,hF⟩
    obtain⟨cur,J8⟩:=Ak.block;obtain⟨g2,cp2,e2,Cg,hglt,hR,Tb,T9⟩:=Ak.form (by omega) I5;obtain⟨rfl,-,rfl⟩:g'=g2/\n=L.length/\cp'=cp2:=(by simpa using e2);rw[A2] at Tb;have hsz3:=Z5 hr;have hsz3p:=Z5 hp;have hsz3z:=Z5 hz;replace hE:=hE.trans hF;replace hr:=hF.get hr;replace hp:=hF.get hp;replace hz:=hF.get hz;clear hF y y0 y1 q0 q1 q2 q3 q4 z0 z1 z2 z3 z4 f0 f1 f2 f3 f4 Ak e2;have q4:=(Zgj hr).2.2.2.2;have f4:=Z8 hr 4))
 have B4:=hE.setCell ⟨w.heap.size,4,none⟩ (.slice (some ⟨g',0,none⟩) n cp') (Nat.le_refl _);have M1:=Zb (i:=4) hr (.slice (some ⟨g',0,none⟩) n cp');have Yc:=(set_ne (w:=w4) (a:=⟨w.heap.size,4,none⟩) (show w.heap.size+1≠w.heap.size by omega) (.slice (some ⟨g',0,none⟩) n cp')).trans hp;have Ln:=(set_ne (w:=w4) (a:=⟨w.heap.size,4,none⟩) (show w.heap.size+1+1≠w.heap.size by omega) (.slice (some ⟨g',0,none⟩) n cp')).trans hz;have Hc:=(set_ne (w:=w4) (a:=⟨w.heap.size,4,none⟩) (show g'≠w.heap.size by omega) (.slice (some ⟨g',0,none⟩) n cp')).trans J8;have Jn:=ZkJ hR (set_ne (w:=w4) (a:=⟨w.heap.size,4,none⟩) (show g'≠w.heap.size by omega) (.slice (some ⟨g',0,none⟩) n cp'));simp only[List.setIfInBounds_toArray,List.set_cons_succ,List.set_cons_zero] at M1;clear hE hr hp hz J8 hR q4 f4;generalize World.setCell w4 _ _=w5 at B4 M1 Yc Ln Hc Jn⊢;obtain⟨bq,oq,eq,_,sx,_⟩:=Jn i x hx;obtain⟨rfl,rfl⟩:g'=bq/\0=oq:=by simpa using eq
 obtain⟨c1,c2⟩:=Zld sx hk;rw[<-hK.out,Kt,Nat.zero_add] at c1;rw[<-hK.out,Gh,Nat.zero_add] at c2;clear sx eq;have g05:=B4.cellS g0;obtain⟨q0,q1,q2,q3,q4⟩:=Zgj M1;have gg:=Zet g05;have gq4:=Zet q4;have B1:(k:Int)<3:=by omega
 refine ZeG 10 (by kernel_rfl) ?_;refine ZeB [0,1,2,3,4,5,6,7] (by kernel_rfl) (by kernel_rfl) ?_;simp only[ZeD,List.getElem?_cons_succ,List.getElem?_cons_zero,List.cons_append,List.nil_append]
 repeat (go_big_quiet_step (fail))
 refine wpQuiet_nil ?_;refine ZeX 8 (f:=f) (args:= #[.pointer (some ⟨g',i*7,none⟩)]) (v:= .pointer (some ⟨g',i*7+K,none⟩)) (by kernel_rfl) rfl (by kernel_rfl) rfl (fun W=>by simp[go_sem,execOp,Act.eval,F6]) (fun W _=>hf _ _ W) ?_;go_simp;refine ZeB [9] (by kernel_rfl) (by kernel_rfl) ?_;simp only[ZeD,List.getElem?_cons_succ,List.getElem?_cons_zero,List.cons_append,List.nil_append]
 repeat (go_big_quiet_step (fail))
 refine wpQuiet_nil ?_;refine Zf6 (by kernel_rfl) (fun W hW=> ?_);have Bv:=B4.trans hW;have hr6:=hW.get M1;have Yd:=hW.get Yc;have Rf:=hW.get Ln;have hg6:=hW.get Hc;have Jo:=Jn.ext hW;have d1:=hW.cellS c1;have d2:=hW.cellS c2;clear B4 M1 Yc Ln Hc Jn c1 c2 q0 q1 q2 q3 q4 gg gq4 hW g05;have y:=Zc Yd;have y0:=y.1;have y1:=y.2.1;have gd1:=Zet d1;have gd2:=Zet d2;have gy0:=Zet y0;have gy1:=Zet y1;go_wp2_with fail;refine ZeG 5 (by kernel_rfl) ?_;refine Zin [0,3] (by kernel_rfl) (by kernel_rfl) ?_;simp only[ZeD,List.getElem?_cons_succ,List.getElem?_cons_zero,List.cons_append,List.nil_append]
 repeat (go_big_quiet_step (fail))
 refine wpQuiet_nil ?_;refine Zl5 1 (v:= .pointer (some ⟨g',i*7+K,none⟩)) (by kernel_rfl) rfl (by kernel_rfl) rfl (fun W=>by simp[go_sem,execOp,Act.eval]) ?_;go_simp;refine Zin [2] (by kernel_rfl) (by kernel_rfl) ?_;simp only[ZeD,List.getElem?_cons_succ,List.getElem?_cons_zero,List.cons_append,List.nil_append]
 repeat (go_big_quiet_step (fail))
 refine wpQuiet_nil ?_;refine Zib 4 (f:=114) (args:= #[.agg #[.int .i64 P1,.int .i64 P2],.agg #[.int .i64 p,.int .i64 q]]) (v:= .agg #[.int .i64 U,.int .i64 V]) (by kernel_rfl) rfl (by kernel_rfl) rfl (fun W=>by simp[go_sem,execOp,Act.eval]) (fun W _=>Ae W) ?_;go_simp;refine Zfp 1 (by kernel_rfl) (fun W hW=> ?_);simp only[List.drop_succ_cons,List.drop_zero];have Hz:=Bv.trans hW;have hr7:=hW.get hr6;have Ye:=hW.get Yd;have hz7:=hW.get Rf;have hg7:=hW.get hg6;have hR7:=Jo.ext hW;have d1:=hW.cellS d1;have d2:=hW.cellS d2;clear Bv hr6 Yd Rf hg6 Jo y y0 y1 gd1 gd2 gy0 gy1 hW;have y:=Zc Ye;have y0:=y.1;have y1:=y.2.1;have y2:=y.2.2.1;have y3:=y.2.2.2;clear y;go_wp2_with fail;refine Zfm ?_;have Jl:=(Hz.setCell ⟨w.heap.size+1,0,none⟩ (.int .i64 U) (by simp)).setCell ⟨w.heap.size+1,1,none⟩ (.int .i64 V) (by simp);have hp8:=set_pair Ye (.int .i64 U) (.int .i64 V);have K8:∀b,b≠w.heap.size+1->((W.setCell ⟨w.heap.size+1,0,none⟩ (.int .i64 U)).setCell ⟨w.heap.size+1,1,none⟩ (.int .i64 V)).heap[b]? =W.heap[b]? :=fun b hb=>(set_ne (a:=⟨w.heap.size+1,1,none⟩) hb (.int .i64 V)).trans (set_ne (a:=⟨w.heap.size+1,0,none⟩) hb (.int .i64 U))
 have hr8:=(K8 _ (by omega)).trans hr7;have Tc:=(K8 _ (by omega)).trans hz7;have Ug:=(K8 g' (by omega)).trans hg7;have Yf:=ZkJ hR7 (K8 g' (by omega));clear K8 Hz hr7 Ye hz7 hg7 hR7 y0 y1 y2 y3 d1 d2;generalize World.setCell (World.setCell W _ _) _ _=w8 at Jl hr8 hp8 Tc Ug Yf⊢;obtain⟨bq,oq,eq,_,sx,_⟩:=Yf i x hx;obtain⟨rfl,rfl⟩:g'=bq/\0=oq:=by simpa using eq
 obtain⟨c1,c2⟩:=Zld sx hk;rw[<-hK.out,Kt,Nat.zero_add] at c1;rw[<-hK.out,Gh,Nat.zero_add] at c2;have t1:=Z8 Ug (i*7+K);have t2:=Z8 Ug (i*7+K+1);clear sx eq;have y:=Zc hp8;have y0:=y.1;have y1:=y.2.1;clear y;by_cases Ph:V<U
 ·obtain⟨z0,z1,z2,z3,z4⟩:=Zgj Tc;obtain⟨f0,f1,f2,f3,f4⟩:=ZiJ Tc;have hz:=Tc;go_wp2_with fail;obtain⟨k0,k1,k2,k3,k4⟩:=Zgj (ZiD hz (.int .i64 0) (.int .i64 0) (.int .i64 0) (.int .i64 0) (.slice none 0 0));simp only[ZjW] at k0 k1 k2 k3 k4;refine bodyPost_ret (v:= .tuple #[.agg #[.int .i64 0,.int .i64 0,.int .i64 0,.int .i64 0,.slice none 0 0],.int .i64 10]) ((Z01 rfl _ _ _).trans ?_) rfl ⟨fun _=>rfl,fun h=>absurd Ph (by omega),ZiE Jl (show w.heap.size<=w.heap.size+1+1 by omega) _ _ _ _ _⟩;simp[go_sem,k0,k1,k2,k3,k4]
 ·have hUV2:U<=V:=by omega
  have Dg:=(Jl.setCell ⟨g',i*7+K,none⟩ (.int .i64 U) (show w.heap.size<=g' by omega)).setCell ⟨g',i*7+K+1,none⟩ (.int .i64 V) (show w.heap.size<=g' by omega);have W4:=ZkT Ug Yf (by omega:i<L.length) hk hK.out U V;have K9:∀b,b≠g'->((w8.setCell ⟨g',i*7+K,none⟩ (.int .i64 U)).setCell ⟨g',i*7+K+1,none⟩ (.int .i64 V)).heap[b]? =w8.heap[b]? :=fun b hb=>(set_ne (a:=⟨g',i*7+K+1,none⟩) hb (.int .i64 V)).trans (set_ne (a:=⟨g',i*7+K,none⟩) hb (.int .i64 U))
  have Nr:=(K9 w.heap.size (by omega)).trans hr8;have Yg:=(K9 (w.heap.size+1+1) (by omega)).trans Tc;clear K9;obtain⟨q0,q1,q2,q3,q4⟩:=Zgj Nr;obtain⟨z0,z1,z2,z3,z4⟩:=Zgj Yg;obtain⟨f0,f1,f2,f3,f4⟩:=ZiJ Yg;go_wp2_with fail;obtain⟨k0,k1,k2,k3,k4⟩:=Zgj (ZiD Yg (.int .i64 a) (.int .i64 b) (.int .i64 c) (.int .i64 m) (.slice (some ⟨g',0,none⟩) n cp'));have Yh:=ZkJ W4 (ZiG _ (show g'≠w.heap.size+1+1 by omega) (.int .i64 a) (.int .i64 b) (.int .i64 c) (.int .i64 m) (.slice (some ⟨g',0,none⟩) n cp'));simp only[ZjW] at k0 k1 k2 k3 k4;refine bodyPost_ret (v:= .tuple #[.agg #[.int .i64 a,.int .i64 b,.int .i64 c,.int .i64 m,.slice (some ⟨g',0,none⟩) n cp'],.int .i64 0]) ((Z01 rfl _ _ _).trans ?_) rfl ⟨fun h=>absurd h (by omega),⟨g',cp',rfl,Tb,by omega,Yh⟩,ZiE Dg (show w.heap.size<=w.heap.size+1+1 by omega) _ _ _ _ _⟩;simp[go_sem,k0,k1,k2,k3,k4]
theorem Zl2(a b c m p q P1 P2 U V:Int)(bs off n cap:Nat)(L:List Sf)(x:Sf)(i k:Nat)(w:World)(A2:L.length=n)(hn:n<=20)(hM:Meas w)(hS:RawA w (some ⟨bs,off,none⟩) L)(h:Zo a b c m L [(i:Int)]=0)(hi:i<n)(hk:k<3)(Du:0<=p/\p<=q/\q<=9999)(hx:L[i]? =some x)(Kt:(spA x k).1=P1)(Gh:(spA x k).2=P2)(hU:max P1 p=U)(hV:min P2 q=V):
 Calls prog 73 #[.agg #[.int .i64 a,.int .i64 b,.int .i64 c,.int .i64 m,.slice (some ⟨bs,off,none⟩) n cap],.int .i64 i,.int .i64 k,.agg #[.int .i64 p,.int .i64 q]] w fun e w'=>(V<U->e= .returned (.tuple #[.agg #[.int .i64 0,.int .i64 0,.int .i64 0,.int .i64 0,.slice none 0 0],.int .i64 10]))/\(U<=V->∃g' cap',e= .returned (.tuple #[.agg #[.int .i64 a,.int .i64 b,.int .i64 c,.int .i64 m,.slice (some ⟨g',0,none⟩) n cap'],.int .i64 0])/\n<=cap'/\w.heap.size<=g'/\RawA w' (some ⟨g',0,none⟩) (Zla L i k (U,V)))/\Ext w w':=by
 have hE:∀{f:Nat}{o:Nat},(∀b off W,Calls prog f #[.pointer (some ⟨b,off,none⟩)] W fun e w'=>e= .returned (.pointer (some ⟨b,off+o,none⟩))/\w'=W)->∀b off W,Calls prog f #[.pointer (some ⟨b,off,none⟩)] W fun e w'=>e= .returned (.pointer (some ⟨b,off+o,none⟩))/\Ext W w':=by
  intro f o hf b off W;refine(hf b off W).mono ?_;rintro e w2 ⟨rfl,rfl⟩;exact⟨rfl,Ext.rfl' _⟩
 obtain rfl|rfl|rfl:k=0\/k=1\/k=2:=by omega
 ·exact ZkK a b c m p q P1 P2 U V bs off n cap L x i 0 211 1 w A2 hn hM hS h hi hk rfl Du hx Kt Gh hU hV (hM 0 (by omega)) (hE Z7o) (fun args w=>by simp[go_sem])
 ·exact ZkK a b c m p q P1 P2 U V bs off n cap L x i 1 213 3 w A2 hn hM hS h hi hk rfl Du hx Kt Gh hU hV (hM 2 (by omega)) (hE Z7p) (fun args w=>by simp[go_sem])
 ·exact ZkK a b c m p q P1 P2 U V bs off n cap L x i 2 215 5 w A2 hn hM hS h hi hk rfl Du hx Kt Gh hU hV (hM 4 (by omega)) (hE Z7q) (fun args w=>by simp[go_sem])
end Go.Proofs.Tryq
namespace Go.Proofs.Tryq
set_option maxRecDepth 100000
set_option maxHeartbeats 4000000
open Go Go.Nk Go.RowKit
set_option linter.all false
theorem eq48f(f:Nat)(a b c d:Int)(w:World):(Op.equalIn (f+1+1) 48 (.agg #[.int .i64 a,.int .i64 b]) (.agg #[.int .i64 c,.int .i64 d])).run prog w= .ok (a==c&&b==d) w:=by
 have u3:prog.underlying 3=some (.int .i64):=(underlying_eq 3).trans Tryz.underlying3;have a3:=Tryz.isAgg3;have z3:=Tryz.sizeOf3;have hS:prog.underlying 48=some (.struct (prog.fieldsOf 48)):=by kernel_rfl
 have hp:prog.stoodInHeld 48=false:=by kernel_rfl
 rw[run_equalIn_agg w (f+1) 48 _ _ hS hp];simp only[Program.fieldsOf,underlying_eq,Tryz.underlying48];go_simp;by_cases h1:a=c<;>by_cases h2:b=d<;>simp[h1,h2]
@[go_sem] theorem eq23 (a b c d:Int) (w:World):(Op.equalIn 10000 23 (.agg #[.int .i64 a,.int .i64 b,.int .i64 c,.int .i64 d]) (.agg #[.int .i64 a,.int .i64 b,.int .i64 c,.int .i64 d])).run prog w= .ok true w:=by
  have u3:prog.underlying 3=some (.int .i64):=(underlying_eq 3).trans Tryz.underlying3;have a3:=Tryz.isAgg3;have z3:=Tryz.sizeOf3;have hS:prog.underlying 23=some (.struct (prog.fieldsOf 23)):=by kernel_rfl
  have hp:prog.stoodInHeld 23=false:=by kernel_rfl
  rw[show(10000:Nat)=9999+1 from rfl,run_equalIn_agg w 9999 23 _ _ hS hp];simp only[Program.fieldsOf,underlying_eq,Tryz.underlying23];go_simp
@[go_sem] theorem guard23 (op:BinOp) (p q:Operand) (xs ys:Array Value) (w:World):(eqGuard op 23 p q (.agg xs) (.agg ys)).run prog w= .ok () w:=run_eqGuard_agg w op 23 p q xs ys (by kernel_rfl)
@[go_sem] theorem eq51 (s:ByteArray) (a b c d e f:Int) (w:World):(Op.equalIn 10000 51 (.agg #[.string s,.int .i64 a,.int .i64 b,.int .i64 c,.int .i64 d,.int .i64 e,.int .i64 f]) (.agg #[.string s,.int .i64 a,.int .i64 b,.int .i64 c,.int .i64 d,.int .i64 e,.int .i64 f])).run prog w= .ok true w:=by
  have a48:=Tryz.isAgg48;have z48:=Tryz.sizeOf48;have hS:prog.underlying 51=some (.struct (prog.fieldsOf 51)):=by kernel_rfl
  have hp:prog.stoodInHeld 51=false:=by kernel_rfl
  have h48:=fun a b=>eq48f 9997 a b a b w
  rw[show(10000:Nat)=9999+1 from rfl,run_equalIn_agg w 9999 51 _ _ hS hp];simp only[Program.fieldsOf,underlying_eq,Tryz.underlying51];go_simp
@[go_sem] theorem guard51 (op:BinOp) (p q:Operand) (xs ys:Array Value) (w:World):(eqGuard op 51 p q (.agg xs) (.agg ys)).run prog w= .ok () w:=run_eqGuard_agg w op 51 p q xs ys (by kernel_rfl)
theorem ZkO(a b c m:Int)(ao1 ao2:Option Addr)(n c1 c2:Nat)(L:List Sf)(w:World)(hn:L.length=n)(hb:n<=1000)(h1:RawA w ao1 L)(h2:RawA w ao2 L):
 Calls prog 75 #[.agg #[.int .i64 a,.int .i64 b,.int .i64 c,.int .i64 m,.slice ao1 n c1],.agg #[.int .i64 a,.int .i64 b,.int .i64 c,.int .i64 m,.slice ao2 n c2]] w fun e w'=>e= .returned (.bool true)/\Ext w w':=by
 have B0:=((Ext.rfl' w).alloc (.cells #[.int .i64 a,.int .i64 b,.int .i64 c,.int .i64 m,.slice ao1 n c1] 26)).alloc (.cells #[.int .i64 a,.int .i64 b,.int .i64 c,.int .i64 m,.slice ao2 n c2] 26);have Ck:((w.alloc (.cells #[.int .i64 a,.int .i64 b,.int .i64 c,.int .i64 m,.slice ao1 n c1] 26)).alloc (.cells #[.int .i64 a,.int .i64 b,.int .i64 c,.int .i64 m,.slice ao2 n c2] 26)).heap[w.heap.size]? =some (.cells #[.int .i64 a,.int .i64 b,.int .i64 c,.int .i64 m,.slice ao1 n c1] 26):=by simp only[Z3,Z2];rw[if_neg (by omega),if_pos trivial]
 have Cc:((w.alloc (.cells #[.int .i64 a,.int .i64 b,.int .i64 c,.int .i64 m,.slice ao1 n c1] 26)).alloc (.cells #[.int .i64 a,.int .i64 b,.int .i64 c,.int .i64 m,.slice ao2 n c2] 26)).heap[w.heap.size+1]? =some (.cells #[.int .i64 a,.int .i64 b,.int .i64 c,.int .i64 m,.slice ao2 n c2] 26):=by simp only[Z3,Z2];rw[if_pos trivial]
 replace hn:Hid (L.length=n):=hn;replace h1:Hid (RawA w ao1 L):=h1;replace h2:Hid (RawA w ao2 L):=h2;go_enter func75,ntmps75;go_wp2;generalize World.alloc _ (.cells #[.int .i64 a,.int .i64 b,.int .i64 c,.int .i64 m,.slice ao2 n c2] 26)=w1 at B0 Ck Cc⊢;go_loopw [5] (fun v5 wr=>∃i:Nat,i<=n/\v5= .int .i64 i/\Ext w wr/\wr.heap[w.heap.size]? =some (.cells #[.int .i64 a,.int .i64 b,.int .i64 c,.int .i64 m,.slice ao1 n c1] 26)/\wr.heap[w.heap.size+1]? =some (.cells #[.int .i64 a,.int .i64 b,.int .i64 c,.int .i64 m,.slice ao2 n c2] 26)) (fun v5 _=>n - (intOf v5).toNat)
 case atStart=>exact⟨0,by omega,rfl,B0,Ck,Cc⟩
 case round=>
  clear B0 Ck Cc;obtain⟨i,hi,rfl,hE,Ck,Cc⟩:=hrel;obtain⟨p0,p1,p2,p3,p4⟩:=Zgj Ck;obtain⟨q0,q1,q2,q3,q4⟩:=Zgj Cc;by_cases Aq:i=n
  ·subst Aq;go_wp2;go_ret;exact⟨rfl,hE⟩
  ·have A3:(i:Int)<(n:Int):=by omega
   obtain⟨x,hx⟩:∃x,L[i]? =some x:=⟨_,List.getElem?_eq_getElem (by have:=hn.out;omega)⟩;obtain⟨b1,o1,rfl,_,sx,_⟩:=(h1.out.ext hE) i x hx;obtain⟨b2,o2,rfl,_,sy,_⟩:=(h2.out.ext hE) i x hx;have x0:=sx.1;have x1:=sx.2;have x2:=sx.3;have x3:=sx.4;have x4:=sx.5;have x5:=sx.6;have x6:=sx.7;have y0:=sy.1;have y1:=sy.2;have y2:=sy.3;have y3:=sy.4;have y4:=sy.5;have y5:=sy.6;have y6:=sy.7;clear hx sx sy;have gp:=Zet p4;have gq:=Zet q4;have gx0:=Zet x0;have gx1:=Zet x1;have gx2:=Zet x2;have gx3:=Zet x3;have gx4:=Zet x4;have gx5:=Zet x5;have gx6:=Zet x6;have gy0:=Zet y0;have gy1:=Zet y1;have gy2:=Zet y2;have gy3:=Zet y3;have gy4:=Zet y4;have gy5:=Zet y5;have gy6:=Zet y6;go_wp2_with fail;refine ZeG 11 (by kernel_rfl) ?_;refine ZeB [0,1,2,3,4,5,6,7,8,9,10] (by kernel_rfl) (by kernel_rfl) ?_;simp only[ZeD,List.getElem?_cons_succ,List.getElem?_cons_zero,List.cons_append,List.nil_append]
   repeat (go_big_quiet_step (fail))
   refine wpQuiet_nil ?_;refine Zf6 (by kernel_rfl) (fun W hW=> ?_);have A7:=hE.trans hW;replace Ck:=hW.get Ck;replace Cc:=hW.get Cc;clear p0 p1 p2 p3 p4 q0 q1 q2 q3 q4 gp gq gx0 gx1 gx2 gx3 gx4 gx5 gx6 gy0 gy1 gy2 gy3 gy4 gy5 gy6 x0 x1 x2 x3 x4 x5 x6 y0 y1 y2 y3 y4 y5 y6 hW hE;go_wp2;exact⟨⟨i+1,by omega,by push_cast;rfl,A7,Ck,Cc⟩,by simp[intOf];omega⟩
end Go.Proofs.Tryq
namespace Go.Proofs.Tryq
set_option maxRecDepth 100000
set_option maxHeartbeats 8000000
open Go Go.Nk Go.RowKit
set_option linter.all false
theorem box2(w:World)(A B:Obj):Ext w ((w.alloc A).alloc B)/\((w.alloc A).alloc B).heap[w.heap.size]? =some A/\((w.alloc A).alloc B).heap[w.heap.size+1]? =some B:=by
 refine⟨((Ext.rfl' w).alloc A).alloc B,?_,?_⟩
 ·simp only[Z3,Z2];rw[if_neg (by omega),if_pos trivial]
 ·simp only[Z3,Z2];rw[if_pos trivial]
theorem ZkP(a b c m p q sh wh:Int)(base:Option Addr)(n cap:Nat)(w:World)
 (H4:∀W,Ext w W->Calls prog 21 #[.agg #[.int .i64 a,.int .i64 b,.int .i64 c,.int .i64 m,.slice base n cap]] W fun e w'=>e= .returned (.bool true)/\Ext W w')
 (Bf:∀W,Ext w W->Calls prog 22 #[] W fun e w'=>e= .returned (.bool true)/\Ext W w'):
 Calls prog 16 #[.agg #[.int .i64 a,.int .i64 b,.int .i64 c,.int .i64 m,.slice base n cap],.int .i64 sh,.int .i64 wh,.agg #[.int .i64 p,.int .i64 q]] w fun e w'=>e= .returned (.bool true):=by
 obtain⟨B0,D3,Bj⟩:=box2 w (.cells #[.int .i64 a,.int .i64 b,.int .i64 c,.int .i64 m,.slice base n cap] 26) (.cells #[.int .i64 p,.int .i64 q] 48);go_enter func16,ntmps16
 go_wp2_with (first
  |(go_at_call 21;refine(H4 _ B0).mono ?_;rintro e w2 ⟨rfl,hF⟩
    have hE:=B0.trans hF)
  |(go_at_call 22;refine(Bf _ hE).mono ?_;rintro e w3 ⟨rfl,An⟩))
 go_ret;exact rfl
theorem ZkM(a b c m p q sh wh a' b' c' m' f:Int)(base:Option Addr)(n cap n':Nat)(L':List Sf)(w:World)(hn':L'.length=n')(hb':n'<=1000)
 (H4:∀W,Ext w W->Calls prog 21 #[.agg #[.int .i64 a,.int .i64 b,.int .i64 c,.int .i64 m,.slice base n cap]] W fun e w'=>e= .returned (.bool false)/\Ext W w')
 (Uh:∀W,Ext w W->Calls prog 73 #[.agg #[.int .i64 a,.int .i64 b,.int .i64 c,.int .i64 m,.slice base n cap],.int .i64 sh,.int .i64 wh,.agg #[.int .i64 p,.int .i64 q]] W fun e w'=>∃ao cp,e= .returned (.tuple #[.agg #[.int .i64 a',.int .i64 b',.int .i64 c',.int .i64 m',.slice ao n' cp],.int .i64 f])/\RawA w' ao L'/\Ext W w')
 (Ui:∀W,Ext w W->Calls prog 74 #[.agg #[.int .i64 a,.int .i64 b,.int .i64 c,.int .i64 m,.slice base n cap],.int .i64 sh,.int .i64 wh,.agg #[.int .i64 p,.int .i64 q]] W fun e w'=>∃ao cp,e= .returned (.tuple #[.agg #[.int .i64 a',.int .i64 b',.int .i64 c',.int .i64 m',.slice ao n' cp],.int .i64 f])/\RawA w' ao L'/\Ext W w')
 (Bf:∀W,Ext w W->Calls prog 22 #[] W fun e w'=>e= .returned (.bool true)/\Ext W w'):
 Calls prog 16 #[.agg #[.int .i64 a,.int .i64 b,.int .i64 c,.int .i64 m,.slice base n cap],.int .i64 sh,.int .i64 wh,.agg #[.int .i64 p,.int .i64 q]] w fun e w'=>e= .returned (.bool true):=by
 obtain⟨B0,D3,Bj⟩:=box2 w (.cells #[.int .i64 a,.int .i64 b,.int .i64 c,.int .i64 m,.slice base n cap] 26) (.cells #[.int .i64 p,.int .i64 q] 48);go_enter func16,ntmps16
 go_wp2_with (first
  |(go_at_call 21;refine(H4 _ B0).mono ?_;rintro e w2 ⟨rfl,hF⟩
    have hE:=B0.trans hF;have hr:=hF.get D3;have hp:=hF.get Bj;clear hF;obtain⟨q0,q1,q2,q3,q4⟩:=Zgj hr;have y:=Zc hp;have y0:=y.1;have y1:=y.2.1;clear y)
  |(go_at_call 73;refine(Uh _ hE).mono ?_;rintro e w3 ⟨ao1,cp1,rfl,Kl,hF⟩
    have hX:=(Ext.rfl' w3).alloc (.cells #[.int .i64 a',.int .i64 b',.int .i64 c',.int .i64 m',.slice ao1 n' cp1] 26);replace hE:=(hE.trans hF).trans hX;replace hr:=hX.get (hF.get hr);replace hp:=hX.get (hF.get hp);replace Kl:=Kl.ext hX;have Ci:=(Z3 w3 (.cells #[.int .i64 a',.int .i64 b',.int .i64 c',.int .i64 m',.slice ao1 n' cp1] 26) w3.heap.size).trans (if_pos rfl);clear hF hX q0 q1 q2 q3 q4 y0 y1;obtain⟨q0,q1,q2,q3,q4⟩:=Zgj hr;have y:=Zc hp;have y0:=y.1;have y1:=y.2.1;clear y)
  |(go_at_call 74;refine(Ui _ hE).mono ?_;rintro e w4 ⟨ao2,cp2,rfl,Pb,hF⟩
    have hX:=(Ext.rfl' w4).alloc (.cells #[.int .i64 a',.int .i64 b',.int .i64 c',.int .i64 m',.slice ao2 n' cp2] 26);replace hE:=(hE.trans hF).trans hX;replace Kl:=(Kl.ext hF).ext hX;replace Pb:=Pb.ext hX;replace Ci:=hX.get (hF.get Ci);have Cw:=(Z3 w4 (.cells #[.int .i64 a',.int .i64 b',.int .i64 c',.int .i64 m',.slice ao2 n' cp2] 26) w4.heap.size).trans (if_pos rfl);clear hF hX q0 q1 q2 q3 q4 y0 y1 hr hp;obtain⟨q0,q1,q2,q3,q4⟩:=Zgj Ci;obtain⟨r0,r1,r2,r3,r4⟩:=Zgj Cw)
  |(go_at_call 75;refine(ZkO a' b' c' m' ao1 ao2 n' cp1 cp2 L' _ hn' hb' Kl Pb).mono ?_;rintro e w5 ⟨rfl,hF⟩
    replace hE:=hE.trans hF;clear hF)
  |(go_at_call 22;refine(Bf _ hE).mono ?_;rintro e w6 ⟨rfl,An⟩))
 go_ret;exact rfl
theorem ZkN(a b c m sh wh p q:Int)(base:Option Addr)(n cap:Nat)(L:List Sf)(w:World)(A2:L.length=n)(hM:Meas w)(Dp:Most w)(hd:Deb w)(hS:RawA w base L):
 Calls prog 16 #[.agg #[.int .i64 a,.int .i64 b,.int .i64 c,.int .i64 m,.slice base n cap],.int .i64 sh,.int .i64 wh,.agg #[.int .i64 p,.int .i64 q]] w fun e w'=>e= .returned (.bool true):=by
 have H4:=fun W hW=>ZaR a b c m base n cap L W A2 (hS.ext hW)
 have Bf:∀W,Ext w W->Calls prog 22 #[] W fun e w'=>e= .returned (.bool true)/\Ext W w':=fun W (hW:Ext w W)=>Zce W (hM.ext hW) (Dp.ext hW) (hd.ext hW)
 cases hg:Z1B L with
 |true=>
  simp only[hg] at H4;exact ZkP a b c m p q sh wh base n cap w H4 Bf
 |false=>
  simp only[hg] at H4;have hn:n<=20:=by
   simp only[Z1B,Bool.or_eq_false_iff,decide_eq_false_iff_not] at hg;omega
  have Ba:∀f:Int,(∀W,Ext w W->Calls prog 73 #[.agg #[.int .i64 a,.int .i64 b,.int .i64 c,.int .i64 m,.slice base n cap],.int .i64 sh,.int .i64 wh,.agg #[.int .i64 p,.int .i64 q]] W fun e w'=>e= .returned (.tuple #[.agg #[.int .i64 0,.int .i64 0,.int .i64 0,.int .i64 0,.slice none 0 0],.int .i64 f])/\Ext W w')->(∀W,Ext w W->Calls prog 74 #[.agg #[.int .i64 a,.int .i64 b,.int .i64 c,.int .i64 m,.slice base n cap],.int .i64 sh,.int .i64 wh,.agg #[.int .i64 p,.int .i64 q]] W fun e w'=>e= .returned (.tuple #[.agg #[.int .i64 0,.int .i64 0,.int .i64 0,.int .i64 0,.slice none 0 0],.int .i64 f])/\Ext W w')->Calls prog 16 #[.agg #[.int .i64 a,.int .i64 b,.int .i64 c,.int .i64 m,.slice base n cap],.int .i64 sh,.int .i64 wh,.agg #[.int .i64 p,.int .i64 q]] w fun e w'=>e= .returned (.bool true):=by
   intro f h1 h2;refine ZkM a b c m p q sh wh 0 0 0 0 f base n cap 0 [] w rfl (by omega) H4 (fun W hW=> ?_) (fun W hW=> ?_) Bf
   ·refine(h1 W hW).mono ?_;rintro e w2 ⟨rfl,hE⟩;exact⟨none,0,rfl,fun i s hs=>by simp at hs,hE⟩
   ·refine(h2 W hW).mono ?_;rintro e w2 ⟨rfl,hE⟩;exact⟨none,0,rfl,fun i s hs=>by simp at hs,hE⟩
  by_cases h0:Zo a b c m L [sh]=0
  ·by_cases hk:0<=wh/\wh<=2
   ·by_cases Du:0<=p/\p<=q/\q<=9999
    ·obtain⟨k,rfl⟩:=Int.eq_ofNat_of_zero_le hk.1;have hi:=h0;rw[ZhG] at hi;split at hi
     ·split at hi
      ·rename_i Qn Dy;obtain⟨i,rfl⟩:=Int.eq_ofNat_of_zero_le Dy.1;have Aq:i<n:=(by omega);obtain⟨x,hx⟩:∃x,L[i]? =some x:=⟨_,List.getElem?_eq_getElem (by omega)⟩;obtain⟨bs,off,rfl,_⟩:=hS i x hx;have Uh:=fun W (hW:Ext w W)=>Zl2 a b c m p q (spA x k).1 (spA x k).2 (max (spA x k).1 p) (min (spA x k).2 q) bs off n cap L x i k W A2 hn (hM.ext hW) (hS.ext hW) h0 Aq (by omega) Du hx rfl rfl rfl rfl
       have Ui:=fun W (hW:Ext w W)=>ZkY a b c m p q (spA x k).1 (spA x k).2 (max (spA x k).1 p) (min (spA x k).2 q) bs off n cap L x i k W A2 hn (hS.ext hW) h0 Aq (by omega) Du hx rfl rfl rfl rfl
       by_cases Ph:min (spA x k).2 q<max (spA x k).1 p
       ·refine Ba 10 (fun W hW=> ?_) (fun W hW=> ?_)
        ·refine(Uh W hW).mono ?_;rintro e w2 ⟨h1,_,hE⟩;exact⟨h1 Ph,hE⟩
        ·refine(Ui W hW).mono ?_;rintro e w2 ⟨h1,_,hE⟩;exact⟨h1 Ph,hE⟩
       ·refine ZkM a b c m p q i k a b c m 0 (some ⟨bs,off,none⟩) n cap n (Zla L i k (max (spA x k).1 p,min (spA x k).2 q)) w (by rw[Zlb];exact A2) (by omega) H4 (fun W hW=> ?_) (fun W hW=> ?_) Bf
        ·refine(Uh W hW).mono ?_;rintro e w2 ⟨_,h1,hE⟩;obtain⟨g,cp,rfl,_,_,hR⟩:=h1 (by omega);exact⟨some ⟨g,0,none⟩,cp,rfl,hR,hE⟩
        ·refine(Ui W hW).mono ?_;rintro e w2 ⟨_,h1,hE⟩;obtain⟨g,cp,rfl,_,_,hR⟩:=h1 (by omega);exact⟨some ⟨g,0,none⟩,cp,rfl,hR,hE⟩
      ·cases hi
     ·contradiction
    ·exact Ba 1 (fun W hW=>Zl1 a b c m p q base n cap L W A2 hn (hM.ext hW) (hS.ext hW) sh wh h0 hk Du) (fun W hW=>ZkX a b c m p q base n cap L W A2 hn (hS.ext hW) sh wh h0 hk Du)
   ·exact Ba 1 (fun W hW=>Zl0 a b c m p q base n cap L W A2 hn (hM.ext hW) (hS.ext hW) sh wh h0 hk) (fun W hW=>ZkW a b c m p q base n cap L W A2 hn (hS.ext hW) sh wh h0 hk)
  ·exact Ba _ (fun W hW=>ZkZ a b c m p q base n cap L W A2 hn (hM.ext hW) (hS.ext hW) sh wh h0) (fun W hW=>ZkV a b c m p q base n cap L W A2 hn (hS.ext hW) sh wh h0)
end Go.Proofs.Tryq
section
set_option maxRecDepth 100000
namespace Go.Proofs.YtedkbdkbbnemlaaGreatDoor
open Go
namespace JarrowMeasures
theorem k0:Rows.arrowMeasuresRow.wf (OpenSpec.ofChange Rows.arrowMeasuresSpec)=true:=by kernel_rfl
theorem k1:laidOutB Tryz.prog=true:=by kernel_rfl
theorem k2:mapsRowed Tryz.prog=true:=by kernel_rfl
theorem k3:Tryz.f16.params.all (Tryz.prog.readableRec ·)=true:=by kernel_rfl
theorem k4:namedTie Tryz.prog Rows.arrowMeasuresRow.named Rows.arrowMeasuresSpec.vars=true:=by kernel_rfl
theorem k5:(Rows.arrowMeasuresRow.stops==[])=true:=by kernel_rfl
theorem k6:(Tryz.prog.stops==[])=true:=by kernel_rfl
theorem k7:(Rows.arrowMeasuresRow.knobs==[])=true:=by kernel_rfl
theorem k8:(Tryz.prog.stopKnobs==[])=true:=by kernel_rfl
theorem k9:(Rows.arrowMeasuresRow.inPlace==Tryz.prog.inPlace 16)=true:=by kernel_rfl
theorem k10:(Rows.arrowMeasuresRow.unfollowed==Tryz.prog.unfollowed 16)=true:=by kernel_rfl
theorem k11:(Rows.arrowMeasuresRow.recurses==Tryz.prog.recurses 16)=true:=by kernel_rfl
theorem k12:(Rows.arrowMeasuresRow.named==Tryz.prog.varsNamed 16)=true:=by kernel_rfl
theorem k13:(Rows.arrowMeasuresRow.maps==(Tryz.f16.params.toList++Rows.arrowMeasuresSpec.plain.varTypes Tryz.prog).any (Tryz.prog.mapsRec ·))=true:=by kernel_rfl
theorem k14:(Rows.arrowMeasuresRow.ifaces==(Tryz.f16.params.toList++Rows.arrowMeasuresSpec.plain.varTypes Tryz.prog).any (Tryz.prog.ifacesRec ·))=true:=by kernel_rfl
theorem k15:(Rows.arrowMeasuresRow.mapsOut==Tryz.prog.mapsAmong Tryz.f16.resultTypes.toList)=true:=by kernel_rfl
theorem k16:(Rows.arrowMeasuresRow.loops==(Tryz.f16.params.toList++Rows.arrowMeasuresSpec.plain.varTypes Tryz.prog).any (Tryz.prog.loopsFrom ·))=true:=by kernel_rfl
theorem k17:(Rows.arrowMeasuresRow.wideKeys==(Tryz.f16.params.toList++Rows.arrowMeasuresSpec.plain.varTypes Tryz.prog++Tryz.f16.resultTypes.toList).any (Tryz.prog.wideKeysFrom ·))=true:=by kernel_rfl
theorem k18:Rows.arrowMeasuresSpec.vars.all (Tryz.prog.varReadable ·)=true:=by kernel_rfl
theorem k19:Tryz.f16.resultTypes.all (fun t=>Tryz.prog.readableRec t&&decide (t<Tryz.prog.types.size))=true:=by kernel_rfl
theorem k20:(Rows.arrowMeasuresRow.ifacesOut==Tryz.f16.resultTypes.toList.any (Tryz.prog.ifacesRec ·))=true:=by kernel_rfl
theorem k21:(Rows.arrowMeasuresRow.loopsOut==Tryz.f16.resultTypes.toList.any (Tryz.prog.loopsFrom ·))=true:=by kernel_rfl
theorem k22:(Rows.arrowMeasuresRow.plainKeys==Tryz.prog.plainKeys)=true:=by kernel_rfl
theorem k23:Rows.arrowMeasuresRow.shortTexts.isNone=true:=by kernel_rfl
theorem k24:Tryz.prog.stopsHeard=true:=by kernel_rfl
theorem k25:Tryz.prog.mayEnter=true:=by kernel_rfl
theorem k26:(Rows.arrowMeasuresRow.lifted==Tryz.prog.liftsFinal)=true:=by kernel_rfl
theorem k27:(Tryz.prog.make==some Rows.arrowMeasuresRow.make)=true:=by kernel_rfl
theorem k28:(Rows.arrowMeasuresRow.kinds==(if Rows.arrowMeasuresRow.domain.isEmpty then[] else Tryz.f16.params.toList.map fun t=>match Tryz.prog.underlying t with|some (.int k)=>some k|_=>none))=true:=by kernel_rfl
theorem k29:(Rows.arrowMeasuresRow.pinned==Rows.arrowMeasuresRow.pinnedBy)=true:=by kernel_rfl
theorem k30:(Rows.arrowMeasuresRow.veiled==(Tryz.f16.params.toList++Rows.arrowMeasuresSpec.plain.varTypes Tryz.prog++Tryz.f16.resultTypes.toList).any (Tryz.prog.veiledRec ·))=true:=by kernel_rfl
theorem k31:Rows.arrowMeasuresRow.veiledFits Tryz.prog Tryz.f16.params.toList (Tryz.f16.params.toList++Rows.arrowMeasuresSpec.plain.varTypes Tryz.prog++Tryz.f16.resultTypes.toList)=true:=by kernel_rfl
theorem ZI{a b:Bool}(ha:a=true)(hb:b=true):(a&&b)=true:=by rw[ha,hb];rfl
theorem facts:joinedFacts Tryz.prog 16 Tryz.f16 Rows.arrowMeasuresSpec Rows.arrowMeasuresRow=true:=(ZI (ZI (ZI (ZI (ZI (ZI (ZI (ZI (ZI (ZI (ZI (ZI (ZI (ZI (ZI (ZI (ZI (ZI (ZI (ZI (ZI (ZI (ZI (ZI (ZI (ZI (ZI (ZI (ZI (ZI (ZI k0 k1) k2) k3) k4) k5) k6) k7) k8) k9) k10) k11) k12) k13) k14) k15) k16) k17) k18) k19) k20) k21) k22) k23) k24) k25) k26) k27) k28) k29) k30) k31)
end JarrowMeasures
end Go.Proofs.YtedkbdkbbnemlaaGreatDoor
end
namespace Go.Proofs.Tryq
set_option maxRecDepth 100000
open Go Go.Nk Go.RowKit Go.ChangeShapes Go.WideShapes Go.ChangeAt Go.Conc Go.Deep
attribute [local instance] theBan
section
variable {H:Type} {enc:TypeId×Value->H} {W:World} {b0:Nat}
theorem Zf4{t:TypeId}{k:IntKind}(hu:Tryz.prog.underlying t=some (.int k))(hs:isS Tryz.prog t=false)(ha:isA Tryz.prog t=false)(hl:(Z3e Tryz.prog 0 t 0).any (fun y=>y.1==0&&y.2==t)=true)(E7:Tryz.prog.cellsOf t=1){v:Value}{d:DataW H}{p:List MemPlace}(hv:Value.okWide Tryz.prog W .any b0 t v)(h:DataW.Trod enc Tryz.prog W 0 (fun _=>true) true t v d p):
 ∃n:Int,v= .int k n/\(Lit.int k n).wf=true/\VRel id (Nk.Live (Zx W)) v v:=by
 have hc:=Zei hv hs ha;obtain⟨fuel,hf⟩:=h;have e:v.cells.toList=[v]:=by
  cases v<;>first|rfl|skip
  rename_i cs;simp[Cell.okWide,Cell.ok,hu] at hc
 rw[e] at hf;have Af:[v].length<=Tryz.prog.cellsOf t:=by rw[E7];exact Nat.le_refl _
 obtain⟨x1,e1,hw⟩:=Z0z (n:=0) (o:=0) (u:=t) Af ⟨_,_,hf⟩ hl hu;obtain rfl:v= .int k x1:=by simpa using e1
 exact⟨x1,rfl,hw,.int _ _⟩
theorem ZhO{v:Value}{d:DataW H}{p:List MemPlace}(hv:Value.okWide Tryz.prog W .any b0 3 v)(h:DataW.Trod enc Tryz.prog W 0 (fun _=>true) true 3 v d p):∃n:Int,v= .int .i64 n/\(Lit.int .i64 n).wf=true/\VRel id (Nk.Live (Zx W)) v v:=
 Zf4 under3 (by kernel_rfl) (by kernel_rfl) (by kernel_rfl) (by kernel_rfl) hv h
end
theorem cells48:Tryz.prog.cellsOf 48=2:=by kernel_rfl
theorem under44:Tryz.prog.underlying 44=some (.int .i64):=by kernel_rfl
theorem arr2{cs:Array Value}{a b:Value}(hs:cs.size=2)(h0:cs.toList[0]? =some a)(h1:cs.toList[1]? =some b):cs= #[a,b]:=by
 rcases cs with⟨l⟩
 match l,hs,h0,h1 with
 |[w,x],_,h0,h1=>
  simp at h0 h1;rw[h0,h1]
section
variable {H:Type} {enc:TypeId×Value->H} {W:World} {b0:Nat}
theorem Zl7{v:Value}{d:DataW H}{p:List MemPlace}(hv:Value.okWide Tryz.prog W .any b0 44 v)(h:DataW.Trod enc Tryz.prog W 0 (fun _=>true) true 44 v d p):∃n:Int,v= .int .i64 n/\(Lit.int .i64 n).wf=true/\VRel id (Nk.Live (Zx W)) v v:=
 Zf4 under44 (by kernel_rfl) (by kernel_rfl) (by kernel_rfl) (by kernel_rfl) hv h
theorem Zl8{v:Value}{d:DataW H}{p:List MemPlace}(hv:Value.okWide Tryz.prog W .any b0 48 v)(h:DataW.Trod enc Tryz.prog W 0 (fun _=>true) true 48 v d p):
 ∃a b:Int,v= .agg #[.int .i64 a,.int .i64 b]/\VRel id (Nk.Live (Zx W)) v v:=by
 obtain⟨cs,rfl,hs,hx⟩:=ZiU hv (by kernel_rfl);obtain⟨fuel,hf⟩:=h;have hf:DataW.trod enc Tryz.prog W 0 (fun _=>true) true fuel 48 cs.toList=some (d,p):=hf;rw[cells48] at hs;have Af:cs.toList.length<=Tryz.prog.cellsOf 48:=by rw[cells48];simp[hs]
 obtain⟨x0,e0,w0⟩:=Z0z (n:=3) (o:=0) (u:=3) Af ⟨_,_,hf⟩ (by kernel_rfl) under3;obtain⟨x1,e1,w1⟩:=Z0z (n:=3) (o:=1) (u:=3) Af ⟨_,_,hf⟩ (by kernel_rfl) under3;have Yi:=arr2 hs e0 e1;subst Yi;have hA:AR id (Nk.Live (Zx W)) #[.int .i64 x0,.int .i64 x1] #[.int .i64 x0,.int .i64 x1]:=(AR.nil.push (.int _ _)).push (.int _ _);exact⟨x0,x1,rfl,.agg hA.1 hA.2⟩
end
end Go.Proofs.Tryq
namespace Go.Proofs.YtedkbdkbbnemlaaGreatDoor
set_option maxRecDepth 100000
open Go Go.Nk Go.RowKit Go.ChangeShapes Go.WideShapes Go.ChangeAt Go.Conc
open Go.Proofs.Tryq
attribute [local instance] theBan
theorem ZkL(os:Os)(started:os.Started)(H:Type)(enc:TypeId×Value->H):
 ReturnsInLeavingWide {} Tryz.checked os 16 .any (fun w args=>(Rows.arrowMeasuresSpec.pre enc Tryz.prog Tryz.f16 [] false w args/\laidMetH Tryz.prog laidL w)/\sizedMet enc Tryz.prog Tryz.f16 (OpenSpec.ofChange Rows.arrowMeasuresSpec) false w args)
  (Rows.arrowMeasuresSpec.post enc Tryz.prog Tryz.f16 false true false false):=by
 refine Z4e (n:=4) (ts:=[26,3,44,48]) started (by simp[keptList]) Tryz.func16 same16 (by kernel_rfl) Tryz.results16 (by kernel_rfl) (by rw[Tryz.params16]) rfl rfl (by kernel_rfl) (fun ds hd=>by
  match ds,hd with
  |[_,_,_,_],_=>rfl) (by kernel_rfl)
  (ChangeSpec.witness_shaped (enc:=enc) (C:=Tryz.checked) (os:=os) (X:=fun w _=>laidMetH Tryz.prog laidL w) false (World.doorLaid Tryz.prog 400 os) #[.agg #[.int .i64 0,.int .i64 0,.int .i64 0,.int .i64 0,.slice none 0 0],.int .i64 0,.int .i64 0,.agg #[.int .i64 0,.int .i64 0]] 8 rfl (Z3F os _) (by kernel_rfl) (by kernel_rfl) (by kernel_rfl) (Z7C os _)) ?_
 intro W base args ds p Ev hA hM Dp hd;rw[Tryz.params16] at Ev;obtain⟨v0,v1,v2,v3,dx0,dx1,dx2,dx3,px0,px1,px2,px3,rfl,rfl,rfl,h0,h1,h2,h3⟩:=trodAll_four hA;obtain⟨a0,b0,c0,d0,ab0,n0,k0,S0,rfl,hL0,Hi,Cy,D3,Iq,M5⟩:=Z4c (Ev 0 26 v0 rfl rfl) h0;obtain⟨u1,rfl,N7,Ck⟩:=ZhO (Ev 1 3 v1 rfl rfl) h1;obtain⟨u2,rfl,Ep,Cc⟩:=Zl7 (Ev 2 44 v2 rfl rfl) h2;obtain⟨a3,b3,rfl,Fr⟩:=Zl8 (Ev 3 48 v3 rfl rfl) h3;refine⟨(((AR.nil.push D3).push Ck).push Cc).push Fr,fun t=> ?_⟩;exact ZkN a0 b0 c0 d0 u1 u2 a3 b3 ab0 n0 k0 S0 (retape t (Zx W)) hL0 hM (Za7 t Dp) hd (Za8 t (Z5T Iq))
theorem arrowMeasures_row:Rows.ArrowMeasuresSaid:=
 OpenClaim.holds_of_wide_leaving 16 Tryz.f16 rfl rfl rfl rfl rfl rfl rfl ⟨rfl,rfl,rfl,rfl,rfl⟩ rfl rfl rfl rfl rfl (by kernel_rfl) Tryz.func16 JarrowMeasures.facts
  (of_decide_eq_true (by kernel_rfl)) (by unfold Func.isWrapper;first|(rw[if_pos (by decide+kernel)];kernel_rfl)|(rw[if_neg (by decide+kernel)];exact⟨rfl,rfl⟩))
  (fun os started H enc _=>ZkL os started H enc)
theorem arrowMeasures_card:Rows.ArrowMeasuresCardSaid:=
 Zac .later [.data,.data,.data,.funcs] true (true,"0e1059176c690520e63ed0d32383d6ff1680ebd08dcb3a61820afc84c46f7b58") false
  arrowMeasures_row (by kernel_rfl) arrowMeasures_row_tie rfl ⟨rfl,rfl⟩ (by kernel_rfl) rfl
  (fun f fn hf hfn=>by
    obtain rfl:f=16:=Option.some.inj ((show Tryz.prog.funcNamed "nock/nocklaw01.ArrowMeasures" =some 16 by kernel_rfl).symm.trans hf) |>.symm
    obtain rfl:fn=Tryz.f16:=(Option.some.inj (Tryz.func16.symm.trans hfn)).symm
    exact⟨by kernel_rfl,fun j t ht=>by
     rw[Tryz.params16] at ht;have hm:t∈[26,3,44,48]:=(by simpa using Array.mem_of_getElem? ht);have Ah:([26,3,44,48].all fun u=> !Tryz.prog.wantsStandIn u)=true:=(by kernel_rfl);exact(show Tryz.prog.wantsStandIn t=false by simpa using List.all_eq_true.1 Ah t hm)⟩)
  (by kernel_rfl)
end Go.Proofs.YtedkbdkbbnemlaaGreatDoor
