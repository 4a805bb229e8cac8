import Derived.Test.YtedkbdkbbnemlaaGreatDoorNkA
import Derived.Test.YtedkbdkbbnemlaaGreatDoorNk29
set_option linter.all false
namespace Go.Proofs.Tryq
set_option maxRecDepth 100000
set_option maxHeartbeats 8000000
open Go Go.Nk Go.RowKit
set_option linter.all false
theorem box4(w:World)(A B C D:Obj):Ext w ((((w.alloc A).alloc B).alloc C).alloc D)/\((((w.alloc A).alloc B).alloc C).alloc D).heap[w.heap.size]? =some A/\((((w.alloc A).alloc B).alloc C).alloc D).heap[w.heap.size+1]? =some B/\((((w.alloc A).alloc B).alloc C).alloc D).heap[w.heap.size+1+1]? =some C/\((((w.alloc A).alloc B).alloc C).alloc D).heap[w.heap.size+1+1+1]? =some D:=by
 obtain⟨h1,h2,h3,h4⟩:=Zlg w A B C;have hX:=(Ext.rfl' (((w.alloc A).alloc B).alloc C)).alloc D;exact⟨h1.alloc _,hX.get h2,hX.get h3,hX.get h4,by rw[Z3,if_pos (by simp only[Z2])]⟩
theorem Zl1(a b c m p q:Int)(base:Option Addr)(n cap:Nat)(L:List Sf)(w:World)(A3:L.length=n)(hn:n<=20)(hM:Meas w)(hS:RawA w base L)(i k:Int)(h:Zo a b c m L [i]=0)(hk:0<=k/\k<=2)(Ft:¬(0<=p/\p<=q/\q<=9999)):
 Calls prog 73 #[.agg #[.int .i64 a,.int .i64 b,.int .i64 c,.int .i64 m,.slice base n cap],.int .i64 i,.int .i64 k,.agg #[.int .i64 p,.int .i64 q]] w fun e w'=>e= .returned (.tuple #[.agg #[.int .i64 0,.int .i64 0,.int .i64 0,.int .i64 0,.slice none 0 0],.int .i64 1])/\Ext w w':=by
 have ho:=fun W (hW:Ext w W) ad hl=>Z3c a b c m base n cap L ad 1 1 [i] W A3 hn rfl (by omega) (hM.ext hW) (hS.ext hW) hl
 have hB:=fun W=>Z09 k 0 2 W
 have hI:=fun W=>Z84 p q 0 9999 W
 rw[decide_eq_true hk] at hB;rw[decide_eq_false Ft] at hI;simp only[h] at ho;clear h hS Ft;obtain⟨Bi,Ek,Bz,Lw,Gu⟩:=box4 w (.cells #[.int .i64 a,.int .i64 b,.int .i64 c,.int .i64 m,.slice base n cap] 26) (.cells #[.int .i64 p,.int .i64 q] 48) (.cells #[.int .i64 0,.int .i64 0,.int .i64 0,.int .i64 0,.slice none 0 0] 26) (.cells #[.int .i64 i] 3);go_enter func73,ntmps73
 go_wp2_with (first
  |(go_at_call 86;refine(ho _ Bi _ (Z7I Gu)).mono ?_;rintro e w2 ⟨rfl,hF⟩
    have As:=Bi.trans hF;have hG:=(Ext.rfl' w2).alloc (.cells #[.int .i64 a,.int .i64 b,.int .i64 c,.int .i64 m,.slice base n cap] 120);have hE:=As.trans hG;have hr:=hG.get (hF.get Ek);have hp:=hG.get (hF.get Bz);have hz:=hG.get (hF.get Lw);clear hF hG;obtain⟨q0,q1,q2,q3,q4⟩:=Zgj hr;have y:=Zc hp;have y0:=y.1;have y1:=y.2.1;obtain⟨z0,z1,z2,z3,z4⟩:=Zgj hz;obtain⟨f0,f1,f2,f3,f4⟩:=ZiJ hz)
  |(go_at_call 110;refine(hB _).mono ?_;rintro e w3 ⟨rfl,Cs⟩;cases Cs)
  |(go_at_call 129;refine(hI _).mono ?_;rintro e w3 ⟨rfl,hF⟩
    replace hE:=hE.trans hF;replace hr:=hF.get hr;replace hp:=hF.get hp;replace hz:=hF.get hz;clear hF y y0 y1 q0 q1 q2 q3 q4 z0 z1 z2 z3 z4 f0 f1 f2 f3 f4;obtain⟨q0,q1,q2,q3,q4⟩:=Zgj hr;have y:=Zc hp;have y0:=y.1;have y1:=y.2.1;obtain⟨z0,z1,z2,z3,z4⟩:=Zgj hz;obtain⟨f0,f1,f2,f3,f4⟩:=ZiJ hz))
 obtain⟨k0,k1,k2,k3,k4⟩:=Zgj (ZiD hz (.int .i64 0) (.int .i64 0) (.int .i64 0) (.int .i64 0) (.slice none 0 0));simp only[put5] at k0 k1 k2 k3 k4;refine bodyPost_ret (v:= .tuple #[.agg #[.int .i64 0,.int .i64 0,.int .i64 0,.int .i64 0,.slice none 0 0],.int .i64 1]) ((Z01 rfl _ _ _).trans ?_) rfl ⟨rfl,ZiE hE (show w.heap.size<=w.heap.size+1+1 by omega) _ _ _ _ _⟩;simp[go_sem,k0,k1,k2,k3,k4]
theorem ZkK(a b c m p q P1 P2 U V:Int)(bs off n cap:Nat)(L:List Sf)(x:Sf)(i k f K:Nat)(w:World)(A3:L.length=n)(hn:n<=20)(hM:Meas w)(hS:RawA w (some ⟨bs,off,none⟩) L)(h:Zo a b c m L [(i:Int)]=0)(hi:i<n)(hk:k<3)(hK:K=1+2*k)(Ft:0<=p/\p<=q/\q<=9999)(hx:L[i]? =some x)(Qg:(spA x k).1=P1)(J6:(spA x k).2=P2)(hU:max P1 p=U)(hV:min P2 q=V)
 (g0:w.cell? ⟨0,k*2,none⟩=some (.func (.func f) #[] #[]))
 (hf:∀b off W,Calls prog f #[.pointer (some ⟨b,off,none⟩)] W fun e w'=>e= .returned (.pointer (some ⟨b,off+K,none⟩))/\Ext W w')
 (Ei:∀args w,(callFunc f args).run prog w= .ok (.enter f args) w):
 Calls prog 73 #[.agg #[.int .i64 a,.int .i64 b,.int .i64 c,.int .i64 m,.slice (some ⟨bs,off,none⟩) n cap],.int .i64 i,.int .i64 k,.agg #[.int .i64 p,.int .i64 q]] w fun e w'=>(V<U->e= .returned (.tuple #[.agg #[.int .i64 0,.int .i64 0,.int .i64 0,.int .i64 0,.slice none 0 0],.int .i64 10]))/\(U<=V->∃g' cap',e= .returned (.tuple #[.agg #[.int .i64 a,.int .i64 b,.int .i64 c,.int .i64 m,.slice (some ⟨g',0,none⟩) n cap'],.int .i64 0])/\n<=cap'/\w.heap.size<=g'/\(∃cur,w'.heap[g']? =some (.cells cur 51))/\RawA w' (some ⟨g',0,none⟩) (Zla L i k (U,V)))/\Ext w w':=by
 have ho:=fun W (hW:Ext w W) ad hl=>Z3c a b c m (some ⟨bs,off,none⟩) n cap L ad 1 1 [(i:Int)] W A3 hn rfl (by omega) (hM.ext hW) (hS.ext hW) hl
 have hB:=fun W=>Z09 (k:Int) 0 2 W
 have hI:=fun W=>Z84 p q 0 9999 W
 have Ag:=fun W=>Z7i P1 P2 p q W
 have I5:=fun W (hW:Ext w W)=>Zl4 (some ⟨bs,off,none⟩) n cap L W A3 (by omega) (by omega) (hS.ext hW)
 have M0:=hS.size;replace hK:Hid (K=1+2*k):=hK;rw[decide_eq_true Ft] at hI;rw[decide_eq_true (show(0:Int)<=(k:Int)/\(k:Int)<=2 by omega)] at hB;simp only[h] at ho;rw[hU,hV] at Ag;have D9:(i:Int)<(n:Int):=by omega
 clear h hS Ft hU hV;obtain⟨Bi,Ek,Bz,Lw,Gu⟩:=box4 w (.cells #[.int .i64 a,.int .i64 b,.int .i64 c,.int .i64 m,.slice (some ⟨bs,off,none⟩) n cap] 26) (.cells #[.int .i64 p,.int .i64 q] 48) (.cells #[.int .i64 0,.int .i64 0,.int .i64 0,.int .i64 0,.slice none 0 0] 26) (.cells #[.int .i64 i] 3);go_enter func73,ntmps73
 go_wp2_with (first
  |(go_at_call 86;refine(ho _ Bi _ (Z7I Gu)).mono ?_;rintro e w2 ⟨rfl,hF⟩
    have As:=Bi.trans hF;have hG:=(Ext.rfl' w2).alloc (.cells #[.int .i64 a,.int .i64 b,.int .i64 c,.int .i64 m,.slice (some ⟨bs,off,none⟩) n cap] 120);have hE:=As.trans hG;have hr:=hG.get (hF.get Ek);have hp:=hG.get (hF.get Bz);have hz:=hG.get (hF.get Lw);clear hF hG;obtain⟨q0,q1,q2,q3,q4⟩:=Zgj hr;have y:=Zc hp;have y0:=y.1;have y1:=y.2.1;obtain⟨z0,z1,z2,z3,z4⟩:=Zgj hz;obtain⟨f0,f1,f2,f3,f4⟩:=ZiJ hz)
  |(go_at_call 110;refine(hB _).mono ?_;rintro e w3 ⟨rfl,Cs⟩;cases Cs)
  |(go_at_call 129;refine(hI _).mono ?_;rintro e w3 ⟨rfl,hF⟩
    replace hE:=hE.trans hF;replace hr:=hF.get hr;replace hp:=hF.get hp;replace hz:=hF.get hz;clear hF y y0 y1 q0 q1 q2 q3 q4 z0 z1 z2 z3 z4 f0 f1 f2 f3 f4;obtain⟨q0,q1,q2,q3,q4⟩:=Zgj hr;have y:=Zc hp;have y0:=y.1;have y1:=y.2.1;obtain⟨z0,z1,z2,z3,z4⟩:=Zgj hz;obtain⟨f0,f1,f2,f3,f4⟩:=ZiJ hz)
  |(go_at_call 130;refine(I5 _ hE).mono ?_;rintro e w4 ⟨g',cp',rfl,Ak,hF⟩
    obtain⟨cur,Ue⟩:=Ak.block;obtain⟨g2,cp2,e2,Cl,hglt,hR,Uf,hmx⟩:=Ak.form (by omega) M0;obtain⟨rfl,-,rfl⟩:g'=g2/\n=L.length/\cp'=cp2:=(by simpa using e2);rw[A3] at Uf;have hsz3:=Z5 hr;have hsz3p:=Z5 hp;have hsz3z:=Z5 hz;replace hE:=hE.trans hF;replace hr:=hF.get hr;replace hp:=hF.get hp;replace hz:=hF.get hz;clear hF y y0 y1 q0 q1 q2 q3 q4 z0 z1 z2 z3 z4 f0 f1 f2 f3 f4 Ak e2;have q4:=(Zgj hr).2.2.2.2;have f4:=Z8 hr 4))
 have B4:=hE.setCell ⟨w.heap.size,4,none⟩ (.slice (some ⟨g',0,none⟩) n cp') (Nat.le_refl _);have Ml:=Zb (i:=4) hr (.slice (some ⟨g',0,none⟩) n cp');have hp5:=(set_ne (w:=w4) (a:=⟨w.heap.size,4,none⟩) (show w.heap.size+1≠w.heap.size by omega) (.slice (some ⟨g',0,none⟩) n cp')).trans hp;have Mr:=(set_ne (w:=w4) (a:=⟨w.heap.size,4,none⟩) (show w.heap.size+1+1≠w.heap.size by omega) (.slice (some ⟨g',0,none⟩) n cp')).trans hz;have Hq:=(set_ne (w:=w4) (a:=⟨w.heap.size,4,none⟩) (show g'≠w.heap.size by omega) (.slice (some ⟨g',0,none⟩) n cp')).trans Ue;have Vu:=ZkJ hR (set_ne (w:=w4) (a:=⟨w.heap.size,4,none⟩) (show g'≠w.heap.size by omega) (.slice (some ⟨g',0,none⟩) n cp'));simp only[List.setIfInBounds_toArray,List.set_cons_succ,List.set_cons_zero] at Ml;clear hE hr hp hz Ue hR q4 f4;generalize World.setCell w4 _ _=w5 at B4 Ml hp5 Mr Hq Vu⊢;obtain⟨bq,oq,eq,_,sx,_⟩:=Vu i x hx;obtain⟨rfl,rfl⟩:g'=bq/\0=oq:=by simpa using eq
 obtain⟨c1,c2⟩:=Zld sx hk;rw[<-hK.out,Qg,Nat.zero_add] at c1;rw[<-hK.out,J6,Nat.zero_add] at c2;clear sx eq;have g05:=B4.cellS g0;obtain⟨q0,q1,q2,q3,q4⟩:=Zgj Ml;have gg:=Zet g05;have gq4:=Zet q4;have B0:(k:Int)<3:=by omega
 refine ZeG 10 (by kernel_rfl) ?_;refine ZeB [0,1,2,3,4,5,6,7] (by kernel_rfl) (by kernel_rfl) ?_;simp only[ZeD,YB,YA,YK,YJ]
 repeat (go_big_quiet_step (fail))
 refine wpQuiet_nil ?_;refine ZeX 8 (f:=f) (args:= #[.pointer (some ⟨g',i*7,none⟩)]) (v:= .pointer (some ⟨g',i*7+K,none⟩)) (by kernel_rfl) rfl (by kernel_rfl) rfl (fun W=>by simp[go_sem,execOp,Act.eval,Ei]) (fun W _=>hf _ _ W) ?_;go_simp;refine ZeB [9] (by kernel_rfl) (by kernel_rfl) ?_;simp only[ZeD,YB,YA,YK,YJ]
 repeat (go_big_quiet_step (fail))
 refine wpQuiet_nil ?_;refine Zf6 (by kernel_rfl) (fun W hW=> ?_);have Ce:=B4.trans hW;have hr6:=hW.get Ml;have hp6:=hW.get hp5;have To:=hW.get Mr;have hg6:=hW.get Hq;have hR6:=Vu.ext hW;have d1:=hW.cellS c1;have d2:=hW.cellS c2;clear B4 Ml hp5 Mr Hq Vu c1 c2 q0 q1 q2 q3 q4 gg gq4 hW g05;have y:=Zc hp6;have y0:=y.1;have y1:=y.2.1;have gd1:=Zet d1;have gd2:=Zet d2;have gy0:=Zet y0;have gy1:=Zet y1;go_wp2_with fail;refine ZeG 5 (by kernel_rfl) ?_;refine Zin [0,3] (by kernel_rfl) (by kernel_rfl) ?_;simp only[ZeD,YB,YA,YK,YJ]
 repeat (go_big_quiet_step (fail))
 refine wpQuiet_nil ?_;refine Zl5 1 (v:= .pointer (some ⟨g',i*7+K,none⟩)) (by kernel_rfl) rfl (by kernel_rfl) rfl (fun W=>by simp[go_sem,execOp,Act.eval]) ?_;go_simp;refine Zin [2] (by kernel_rfl) (by kernel_rfl) ?_;simp only[ZeD,YB,YA,YK,YJ]
 repeat (go_big_quiet_step (fail))
 refine wpQuiet_nil ?_;refine Zib 4 (f:=114) (args:= #[.agg #[.int .i64 P1,.int .i64 P2],.agg #[.int .i64 p,.int .i64 q]]) (v:= .agg #[.int .i64 U,.int .i64 V]) (by kernel_rfl) rfl (by kernel_rfl) rfl (fun W=>by simp[go_sem,execOp,Act.eval]) (fun W _=>Ag W) ?_;go_simp;refine Zfp 1 (by kernel_rfl) (fun W hW=> ?_);simp only[List.drop_succ_cons,List.drop_zero];have Ii:=Ce.trans hW;have hr7:=hW.get hr6;have hp7:=hW.get hp6;have hz7:=hW.get To;have hg7:=hW.get hg6;have hR7:=hR6.ext hW;have d1:=hW.cellS d1;have d2:=hW.cellS d2;clear Ce hr6 hp6 To hg6 hR6 y y0 y1 gd1 gd2 gy0 gy1 hW;have y:=Zc hp7;have y0:=y.1;have y1:=y.2.1;have y2:=y.2.2.1;have y3:=y.2.2.2;clear y;go_wp2_with fail;refine Zfm ?_;have K6:=(Ii.setCell ⟨w.heap.size+1,0,none⟩ (.int .i64 U) (by simp)).setCell ⟨w.heap.size+1,1,none⟩ (.int .i64 V) (by simp);have hp8:=set_pair hp7 (.int .i64 U) (.int .i64 V);have K8:∀b,b≠w.heap.size+1->((W.setCell ⟨w.heap.size+1,0,none⟩ (.int .i64 U)).setCell ⟨w.heap.size+1,1,none⟩ (.int .i64 V)).heap[b]? =W.heap[b]? :=fun b hb=>(set_ne (a:=⟨w.heap.size+1,1,none⟩) hb (.int .i64 V)).trans (set_ne (a:=⟨w.heap.size+1,0,none⟩) hb (.int .i64 U))
 have hr8:=(K8 _ (by omega)).trans hr7;have Ug:=(K8 _ (by omega)).trans hz7;have Uh:=(K8 g' (by omega)).trans hg7;have hR8:=ZkJ hR7 (K8 g' (by omega));clear K8 Ii hr7 hp7 hz7 hg7 hR7 y0 y1 y2 y3 d1 d2;generalize World.setCell (World.setCell W _ _) _ _=w8 at K6 hr8 hp8 Ug Uh hR8⊢;obtain⟨bq,oq,eq,_,sx,_⟩:=hR8 i x hx;obtain⟨rfl,rfl⟩:g'=bq/\0=oq:=by simpa using eq
 obtain⟨c1,c2⟩:=Zld sx hk;rw[<-hK.out,Qg,Nat.zero_add] at c1;rw[<-hK.out,J6,Nat.zero_add] at c2;have t1:=Z8 Uh (i*7+K);have t2:=Z8 Uh (i*7+K+1);clear sx eq;have y:=Zc hp8;have y0:=y.1;have y1:=y.2.1;clear y;by_cases hUV:V<U
 ·obtain⟨z0,z1,z2,z3,z4⟩:=Zgj Ug;obtain⟨f0,f1,f2,f3,f4⟩:=ZiJ Ug;have hz:=Ug;go_wp2_with fail;obtain⟨k0,k1,k2,k3,k4⟩:=Zgj (ZiD hz (.int .i64 0) (.int .i64 0) (.int .i64 0) (.int .i64 0) (.slice none 0 0));simp only[put5] at k0 k1 k2 k3 k4;refine bodyPost_ret (v:= .tuple #[.agg #[.int .i64 0,.int .i64 0,.int .i64 0,.int .i64 0,.slice none 0 0],.int .i64 10]) ((Z01 rfl _ _ _).trans ?_) rfl ⟨fun _=>rfl,fun h=>absurd hUV (by omega),ZiE K6 (show w.heap.size<=w.heap.size+1+1 by omega) _ _ _ _ _⟩;simp[go_sem,k0,k1,k2,k3,k4]
 ·have hUV2:U<=V:=by omega
  have Dm:=(K6.setCell ⟨g',i*7+K,none⟩ (.int .i64 U) (show w.heap.size<=g' by omega)).setCell ⟨g',i*7+K+1,none⟩ (.int .i64 V) (show w.heap.size<=g' by omega);have Xl:=ZkT Uh hR8 (by omega:i<L.length) hk hK.out U V;have K9:∀b,b≠g'->((w8.setCell ⟨g',i*7+K,none⟩ (.int .i64 U)).setCell ⟨g',i*7+K+1,none⟩ (.int .i64 V)).heap[b]? =w8.heap[b]? :=fun b hb=>(set_ne (a:=⟨g',i*7+K+1,none⟩) hb (.int .i64 V)).trans (set_ne (a:=⟨g',i*7+K,none⟩) hb (.int .i64 U))
  have Om:=(K9 w.heap.size (by omega)).trans hr8;have hz9:=(K9 (w.heap.size+1+1) (by omega)).trans Ug;clear K9;obtain⟨q0,q1,q2,q3,q4⟩:=Zgj Om;obtain⟨z0,z1,z2,z3,z4⟩:=Zgj hz9;obtain⟨f0,f1,f2,f3,f4⟩:=ZiJ hz9;go_wp2_with fail;obtain⟨k0,k1,k2,k3,k4⟩:=Zgj (ZiD hz9 (.int .i64 a) (.int .i64 b) (.int .i64 c) (.int .i64 m) (.slice (some ⟨g',0,none⟩) n cp'));have hR10:=ZkJ Xl (ZiG _ (show g'≠w.heap.size+1+1 by omega) (.int .i64 a) (.int .i64 b) (.int .i64 c) (.int .i64 m) (.slice (some ⟨g',0,none⟩) n cp'));simp only[put5] at k0 k1 k2 k3 k4;refine bodyPost_ret (v:= .tuple #[.agg #[.int .i64 a,.int .i64 b,.int .i64 c,.int .i64 m,.slice (some ⟨g',0,none⟩) n cp'],.int .i64 0]) ((Z01 rfl _ _ _).trans ?_) rfl ⟨fun h=>absurd h (by omega),⟨g',cp',rfl,Uf,by omega,⟨_,(ZiG _ (show g'≠w.heap.size+1+1 by omega) _ _ _ _ _).trans (Zb (i:=i*7+K+1) (Zb (i:=i*7+K) Uh (.int .i64 U)) (.int .i64 V))⟩,hR10⟩,ZiE Dm (show w.heap.size<=w.heap.size+1+1 by omega) _ _ _ _ _⟩;simp[go_sem,k0,k1,k2,k3,k4]
theorem Zl2(a b c m p q P1 P2 U V:Int)(bs off n cap:Nat)(L:List Sf)(x:Sf)(i k:Nat)(w:World)(A3:L.length=n)(hn:n<=20)(hM:Meas w)(hS:RawA w (some ⟨bs,off,none⟩) L)(h:Zo a b c m L [(i:Int)]=0)(hi:i<n)(hk:k<3)(Ft:0<=p/\p<=q/\q<=9999)(hx:L[i]? =some x)(Qg:(spA x k).1=P1)(J6:(spA x k).2=P2)(hU:max P1 p=U)(hV:min P2 q=V):
 Calls prog 73 #[.agg #[.int .i64 a,.int .i64 b,.int .i64 c,.int .i64 m,.slice (some ⟨bs,off,none⟩) n cap],.int .i64 i,.int .i64 k,.agg #[.int .i64 p,.int .i64 q]] w fun e w'=>(V<U->e= .returned (.tuple #[.agg #[.int .i64 0,.int .i64 0,.int .i64 0,.int .i64 0,.slice none 0 0],.int .i64 10]))/\(U<=V->∃g' cap',e= .returned (.tuple #[.agg #[.int .i64 a,.int .i64 b,.int .i64 c,.int .i64 m,.slice (some ⟨g',0,none⟩) n cap'],.int .i64 0])/\n<=cap'/\w.heap.size<=g'/\(∃cur,w'.heap[g']? =some (.cells cur 51))/\RawA w' (some ⟨g',0,none⟩) (Zla L i k (U,V)))/\Ext w w':=by
 have hE:∀{f:Nat}{o:Nat},(∀b off W,Calls prog f #[.pointer (some ⟨b,off,none⟩)] W fun e w'=>e= .returned (.pointer (some ⟨b,off+o,none⟩))/\w'=W)->∀b off W,Calls prog f #[.pointer (some ⟨b,off,none⟩)] W fun e w'=>e= .returned (.pointer (some ⟨b,off+o,none⟩))/\Ext W w':=by
  intro f o hf b off W;refine(hf b off W).mono ?_;rintro e w2 ⟨rfl,rfl⟩;exact⟨rfl,Ext.rfl' _⟩
 obtain rfl|rfl|rfl:k=0\/k=1\/k=2:=by omega
 ·exact ZkK a b c m p q P1 P2 U V bs off n cap L x i 0 211 1 w A3 hn hM hS h hi hk rfl Ft hx Qg J6 hU hV (hM 0 (by omega)) (hE Z7o) (fun args w=>by simp[go_sem])
 ·exact ZkK a b c m p q P1 P2 U V bs off n cap L x i 1 213 3 w A3 hn hM hS h hi hk rfl Ft hx Qg J6 hU hV (hM 2 (by omega)) (hE Z7p) (fun args w=>by simp[go_sem])
 ·exact ZkK a b c m p q P1 P2 U V bs off n cap L x i 2 215 5 w A3 hn hM hS h hi hk rfl Ft hx Qg J6 hU hV (hM 4 (by omega)) (hE Z7q) (fun args w=>by simp[go_sem])
end Go.Proofs.Tryq
namespace Go.Nk
open Go Go.Region Go.Proofs.Tryq
set_option linter.all false
section
variable {P:Program} {ops:Array Oper} {R:Exit->Act->World->Prop} {t:Nat} {l:List Nat}
theorem put_comm(a:Act){d e:Nat}(A9:d≠e)(v u:Value):(a.put (some d) v).put (some e) u=(a.put (some e) u).put (some d) v:=by
 simp only[Act.put];rw[Array.setIfInBounds_comm _ _ A9]
end
section
variable {P:Program} {ops:Array Oper} {R:Exit->Act->World->Prop} {X:Nat->Prop} {l:List Nat}
theorem Znb(k j i:Nat){o q r:Oper}{a:Act}{w:World}(hk:ops[k]? =some o)(hj:ops[j]? =some q)(hi:ops[i]? =some r)(hb:(decide (l.length<ops.size)&&Region.ready .any ops (mark ops.size l)==[k,j,i])=true)
 (hw:Region.wanted o (yielded ops a.tmps)=true)(E4:Region.wanted q (yielded ops a.tmps)=true)(Cs:Region.wanted r (yielded ops a.tmps)=true)
 (h:o.wp P a w (fun a' W'=>ExtX X w W'/\LXE P ops R (ExtX X) (k::l) a' W') FQ)(h2:q.wp P a w (fun a' W'=>ExtX X w W'/\LXE P ops R (ExtX X) (j::l) a' W') FQ)(h3:r.wp P a w (fun a' W'=>ExtX X w W'/\LXE P ops R (ExtX X) (i::l) a' W') FQ):LXE P ops R (ExtX X) l a w:=by
 simp only[YG,decide_eq_true_eq,beq_iff_eq] at hb;unfold LXE at*;rw[show ops.size - l.length=(ops.size - (k::l).length)+1 by simp only[YP];omega];refine⟨fun h0=>(by rw[h0] at hb;cases hb.2),fun x hx=> ?_⟩;rw[hb.2] at hx;rcases List.mem_cons.1 hx with rfl|hx
 ·unfold wpOp;simp only[hk,hw,if_true];exact .inl h
 ·rcases List.mem_cons.1 hx with rfl|hx
  ·unfold wpOp;simp only[hj,E4,if_true];exact .inl h2
  ·obtain rfl:x=i:=by simpa using hx
   unfold wpOp;simp only[hi,Cs,if_true];exact .inl h3
theorem LXE.perm{l':List Nat}{a:Act}{w:World}(hm:mark ops.size l=mark ops.size l')(hl:l.length=l'.length)(h:LXE P ops R (ExtX X) l a w):LXE P ops R (ExtX X) l' a w:=by
 unfold LXE at*;rw[<-hm,<-hl];exact h
theorem ZmU(j i dj di:Nat)(obj:Obj){o q:Oper}{a:Act}{w:World}(hj:ops[j]? =some o)(hi:ops[i]? =some q)(Qh:o.dst=some dj)(Qi:q.dst=some di)(A9:dj≠di)
 (hb:(decide (l.length+1<ops.size)&&Region.ready .any ops (mark ops.size l)==[j,i]&&Region.ready .any ops (mark ops.size (j::l))==[i]&&Region.ready .any ops (mark ops.size (i::l))==[j]&&mark ops.size (j::i::l)==mark ops.size (i::j::l))=true)
 (Qj:∀a:Act,Region.wanted o (yielded ops a.tmps)=true)(Qk:∀a:Act,Region.wanted q (yielded ops a.tmps)=true)
 (Hs:∀(a:Act) W,(execOp a.eval o).run P W= .ok (.value (.pointer (some ⟨W.heap.size,0,none⟩))) (W.alloc obj))(Ht:∀(a:Act) W,(execOp a.eval q).run P W= .ok (.value (.pointer (some ⟨W.heap.size,0,none⟩))) (W.alloc obj))
 (h:∀W bj bi,Ext w W->bj≠bi->w.heap.size<=bj->w.heap.size<=bi->W.heap[bj]? =some obj->W.heap[bi]? =some obj->LXE P ops R (ExtX X) (i::j::l) ((a.put (some dj) (.pointer (some ⟨bj,0,none⟩))).put (some di) (.pointer (some ⟨bi,0,none⟩))) W):LXE P ops R (ExtX X) l a w:=by
 simp only[YG,decide_eq_true_eq,beq_iff_eq] at hb;obtain⟨⟨⟨⟨b3,b4⟩,b5⟩,b6⟩,b7⟩:=hb;have g1:=(((Ext.rfl' (w.alloc obj)).alloc obj)).get ((Z3 w obj w.heap.size).trans (if_pos rfl));have g2:=(Z3 (w.alloc obj) obj (w.alloc obj).heap.size).trans (if_pos rfl);have hs:=Z2 w obj;have hE:=((Ext.rfl' w).alloc obj).alloc obj;refine Zir j i hj hi (by simp only[YG,decide_eq_true_eq,beq_iff_eq];exact⟨by omega,b4⟩) (Qj a) (Qk a) ?_ ?_
 ·refine Zf3 ⟨_,_,Hs a w,Ext.toX ((Ext.rfl' w).alloc obj) X,?_⟩;rw[Qh];refine Zh4 i hi (by simp only[YG,decide_eq_true_eq,beq_iff_eq];exact⟨by simp only[YP];omega,b5⟩) (Qk _) ?_;refine Zf3 ⟨_,_,Ht _ _,Ext.toX ((Ext.rfl' _).alloc obj) X,?_⟩;rw[Qi];exact h _ w.heap.size (w.alloc obj).heap.size hE (by omega) (Nat.le_refl _) (by omega) g1 g2
 ·refine Zf3 ⟨_,_,Ht a w,Ext.toX ((Ext.rfl' w).alloc obj) X,?_⟩;rw[Qi];refine Zh4 j hj (by simp only[YG,decide_eq_true_eq,beq_iff_eq];exact⟨by simp only[YP];omega,b6⟩) (Qj _) ?_;refine Zf3 ⟨_,_,Hs _ _,Ext.toX ((Ext.rfl' _).alloc obj) X,?_⟩;rw[Qh];have:=h _ (w.alloc obj).heap.size w.heap.size hE (by omega) (by omega) (Nat.le_refl _) g2 g1;rw[put_comm _ A9] at this;exact this.perm b7.symm rfl
theorem Zn2(k j i dk dj di:Nat)(obj:Obj){p o q:Oper}{a:Act}{w:World}(hk:ops[k]? =some p)(hj:ops[j]? =some o)(hi:ops[i]? =some q)(O1:p.dst=some dk)(Qh:o.dst=some dj)(Qi:q.dst=some di)(n1:dk≠dj)(n2:dk≠di)(n3:dj≠di)
 (hb:(decide (l.length+2<ops.size)&&Region.ready .any ops (mark ops.size l)==[k,j,i]&&Region.ready .any ops (mark ops.size (k::l))==[j,i]&&Region.ready .any ops (mark ops.size (j::l))==[k,i]&&Region.ready .any ops (mark ops.size (i::l))==[k,j]
   &&Region.ready .any ops (mark ops.size (j::k::l))==[i]&&Region.ready .any ops (mark ops.size (i::k::l))==[j]&&Region.ready .any ops (mark ops.size (k::j::l))==[i]&&Region.ready .any ops (mark ops.size (i::j::l))==[k]&&Region.ready .any ops (mark ops.size (k::i::l))==[j]&&Region.ready .any ops (mark ops.size (j::i::l))==[k]
   &&mark ops.size (j::i::k::l)==mark ops.size (i::j::k::l)&&mark ops.size (k::i::j::l)==mark ops.size (i::k::j::l)&&mark ops.size (k::j::i::l)==mark ops.size (j::k::i::l)
   &&mark ops.size (i::j::k::l)==mark ops.size (i::k::j::l)&&mark ops.size (i::j::k::l)==mark ops.size (j::k::i::l))=true)
 (M4:∀a:Act,Region.wanted p (yielded ops a.tmps)=true)(Qj:∀a:Act,Region.wanted o (yielded ops a.tmps)=true)(Qk:∀a:Act,Region.wanted q (yielded ops a.tmps)=true)
 (P0:∀(a:Act) W,(execOp a.eval p).run P W= .ok (.value (.pointer (some ⟨W.heap.size,0,none⟩))) (W.alloc obj))(Hs:∀(a:Act) W,(execOp a.eval o).run P W= .ok (.value (.pointer (some ⟨W.heap.size,0,none⟩))) (W.alloc obj))(Ht:∀(a:Act) W,(execOp a.eval q).run P W= .ok (.value (.pointer (some ⟨W.heap.size,0,none⟩))) (W.alloc obj))
 (h:∀W bk bj bi,Ext w W->bk≠bj->bk≠bi->bj≠bi->w.heap.size<=bk->w.heap.size<=bj->w.heap.size<=bi->W.heap[bk]? =some obj->W.heap[bj]? =some obj->W.heap[bi]? =some obj->LXE P ops R (ExtX X) (i::j::k::l) (((a.put (some dk) (.pointer (some ⟨bk,0,none⟩))).put (some dj) (.pointer (some ⟨bj,0,none⟩))).put (some di) (.pointer (some ⟨bi,0,none⟩))) W):LXE P ops R (ExtX X) l a w:=by
 simp only[YG,decide_eq_true_eq,beq_iff_eq] at hb;obtain⟨⟨⟨⟨⟨⟨⟨⟨⟨⟨⟨⟨⟨⟨⟨c4,c5⟩,c6⟩,c7⟩,c8⟩,r1⟩,r2⟩,r3⟩,r4⟩,r5⟩,r6⟩,m1⟩,m2⟩,m3⟩,m4⟩,m5⟩:=hb;have g0:=(Z3 w obj w.heap.size).trans (if_pos rfl);have hs:=Z2 w obj;have hE:=(Ext.rfl' w).alloc obj;refine Znb k j i hk hj hi (by simp only[YG,decide_eq_true_eq,beq_iff_eq];exact⟨by omega,c5⟩) (M4 a) (Qj a) (Qk a) ?_ ?_ ?_
 ·refine Zf3 ⟨_,_,P0 a w,Ext.toX hE X,?_⟩;rw[O1];refine ZmU j i dj di obj hj hi Qh Qi n3 (by simp only[YG,decide_eq_true_eq,beq_iff_eq];exact⟨⟨⟨⟨by simp only[YP];omega,c6⟩,r1⟩,r2⟩,m1⟩) Qj Qk Hs Ht fun W2 bj bi Mz A9 lj li gj gi=> ?_
  exact h W2 w.heap.size bj bi (hE.trans Mz) (by omega) (by omega) A9 (Nat.le_refl _) (by omega) (by omega) (Mz.get g0) gj gi
 ·refine Zf3 ⟨_,_,Hs a w,Ext.toX hE X,?_⟩;rw[Qh];refine ZmU k i dk di obj hk hi O1 Qi n2 (by simp only[YG,decide_eq_true_eq,beq_iff_eq];exact⟨⟨⟨⟨by simp only[YP];omega,c7⟩,r3⟩,r4⟩,m2⟩) M4 Qk P0 Ht fun W2 bk bi Mz A9 lk li gk gi=> ?_
  have:=h W2 bk w.heap.size bi (hE.trans Mz) (by omega) A9 (by omega) (by omega) (Nat.le_refl _) (by omega) gk (Mz.get g0) gi;rw[put_comm a n1] at this;exact this.perm m4 rfl
 ·refine Zf3 ⟨_,_,Ht a w,Ext.toX hE X,?_⟩;rw[Qi];refine ZmU k j dk dj obj hk hj O1 Qh n1 (by simp only[YG,decide_eq_true_eq,beq_iff_eq];exact⟨⟨⟨⟨by simp only[YP];omega,c8⟩,r5⟩,r6⟩,m3⟩) M4 Qj P0 Hs fun W2 bk bj Mz A9 lk lj gk gj=> ?_
  have:=h W2 bk bj w.heap.size (hE.trans Mz) A9 (by omega) (by omega) (by omega) (by omega) (Nat.le_refl _) gk gj (Mz.get g0);rw[put_comm _ n3,put_comm a n2] at this;exact this.perm m5 rfl
end
end Go.Nk
section
namespace Go.Proofs.Tryq
open Go Go.Nk Go.RowKit
set_option linter.all false
theorem OwnA.form0{w:World}{b:Nat}{v:Value}{S:List Sf}(h:OwnA b w v S):∃ao cp,v= .slice ao S.length cp/\S.length<=cp:=by
 rcases h.2 with⟨h1,h2⟩|⟨g,cap,cur,e,hb,hg,h1,h2,_⟩
 ·refine⟨none,0,?_,by omega⟩;rw[h1];congr 1;omega
 ·exact⟨_,cap,e,h1⟩
theorem OwnA.rawA{w:World}{b n cp:Nat}{ao:Option Addr}{S:List Sf}(h:OwnA b w (.slice ao n cp) S)(hn:∀x∈S,x.nm.size<=maxLen):RawA w ao S:=by
 by_cases h0:0<S.length
 ·obtain⟨g,cap,e,_,_,hR,_⟩:=h.form h0 hn;cases e;exact hR
 ·have:S=[]:=List.length_eq_zero_iff.1 (by omega);subst this;exact fun i s hs=>by simp at hs
theorem Znk{b b':Nat}{w:World}{v:Value}{S:List Sf}(h:OwnA b w v S)(hb:b'<=b):OwnA b' w v S:=Z05 h hb
theorem Znc{w:World}{ao:Option Addr}{L:List Sf}(h:RawA w ao L)(k:Nat):RawA w ao (L.take k):=fun j y hy=>by
 rw[List.getElem?_take] at hy;split at hy
 ·exact h j y hy
 ·cases hy
theorem Znd{w:World}{b o:Nat}{L:List Sf}(h:RawA w (some ⟨b,o,none⟩) L)(k:Nat):RawA w (some ⟨b,o+k*7,none⟩) (L.drop k):=fun j y hy=>by
 rw[List.getElem?_drop] at hy;obtain⟨b',o',e,A4,sh,hz⟩:=h _ _ hy;obtain⟨rfl,rfl⟩:b=b'/\o=o':=by simpa using e
 refine⟨b,o+k*7,rfl,A4,?_,hz⟩;have e2:o+k*7+j*7=o+(k+j)*7:=by rw[Nat.add_mul];omega
 rw[e2];exact sh
end Go.Proofs.Tryq
namespace Go.Proofs.Tryq
open Go Go.Nk Go.RowKit
section
variable {ops:Array Oper} {R:Exit->Act->World->Prop} {X:Nat->Prop} {l:List Nat}
theorem Znl(j1 j2 k d1 d2 dk:Nat){o1 o2 ok:Oper}{a:Act}{w:World}(x:Operand)(xs:Array Value)
 (i1:ops[j1]? =some o1)(i2:ops[j2]? =some o2)(ik:ops[k]? =some ok)(e1:o1.dst=some d1)(e2:o2.dst=some d2)(ek:ok.dst=some dk)(n1:dk≠d1)(n2:dk≠d2)
 (hb:(decide (l.length+2<ops.size)&&Region.ready .any ops (Nk.mark ops.size l)==[j1,k]&&Region.ready .any ops (Nk.mark ops.size (j1::l))==[j2,k]&&Region.ready .any ops (Nk.mark ops.size (k::l))==[j1]
   &&Region.ready .any ops (Nk.mark ops.size (k::j1::l))==[j2]&&Region.ready .any ops (Nk.mark ops.size (j2::j1::l))==[k]&&Region.ready .any ops (Nk.mark ops.size (j1::k::l))==[j2]
   &&Nk.mark ops.size (j2::k::j1::l)==Nk.mark ops.size (k::j2::j1::l)&&Nk.mark ops.size (j2::j1::k::l)==Nk.mark ops.size (k::j2::j1::l))=true)
 (w1:∀a:Act,Region.wanted o1 (yielded ops a.tmps)=true)(w2:∀a:Act,Region.wanted o2 (yielded ops a.tmps)=true)(wk:∀a:Act,Region.wanted ok (yielded ops a.tmps)=true)
 (r1:∀(a:Act) W,(execOp a.eval o1).run prog W= .ok (.value (.slice (some ⟨W.heap.size,0,none⟩) 0 0)) (W.alloc (.cells #[] 51)))
 (a2:o2.op= .call {callee:= .builtin .append,args:= #[.tmp d1,x],argTypes:= #[24,24]})
 (rk:∀(a':Act) W,(a'=a\/(∃v,a'=a.put (some d1) v)\/∃v v',a'=(a.put (some d1) v).put (some d2) v')->(execOp a'.eval ok).run prog W= .ok (.value (.slice (some ⟨W.heap.size,0,none⟩) 1 1)) (W.alloc (.cells xs 51)))
 (ad:Addr)(c:Nat)(S:List Sf)
 (ex:∀(a':Act)(v:Value),(a'=a.put (some d1) v\/(∃v',a'=(a.put (some d1) v).put (some dk) v')\/∃v',a'=(a.put (some dk) v').put (some d1) v)->a'.eval (.tmp d1)=v/\a'.eval x= .slice (some ad) S.length c)
 (Gp:∀W,Ext w W->∀j u,(ZkU S)[j]? =some u->W.cell? (ad.add j)=some u)(hS:S.length<=1000)(hX:∀q,w.heap.size<=q->X q)
 (h:∀W v1 v3 bn,Ext w W->OwnA w.heap.size W v3 S->W.heap[bn]? =some (.cells xs 51)->LXE prog ops R (ExtX X) (k::j2::j1::l) (((a.put (some d1) v1).put (some d2) v3).put (some dk) (.slice (some ⟨bn,0,none⟩) 1 1)) W):
 LXE prog ops R (ExtX X) l a w:=by
 simp only[YG,decide_eq_true_eq,beq_iff_eq] at hb;obtain⟨⟨⟨⟨⟨⟨⟨⟨c1,c2⟩,c3⟩,c4⟩,c5⟩,c6⟩,c7⟩,m1⟩,m2⟩:=hb;have g0:=(Z3 w (.cells #[] 51) w.heap.size).trans (if_pos rfl);have gk:=(Z3 w (.cells xs 51) w.heap.size).trans (if_pos rfl);have As:=(Ext.rfl' w).alloc (.cells #[] 51);have Ld:=(Ext.rfl' w).alloc (.cells xs 51);have s1:=Z2 w (.cells #[] 51);have sk:=Z2 w (.cells xs 51);refine Zir j1 k i1 ik (by simp only[YG,decide_eq_true_eq,beq_iff_eq];exact⟨by omega,c2⟩) (w1 a) (wk a) ?_ ?_
 ·refine Zf3 ⟨_,_,r1 a w,Ext.toX As X,?_⟩;rw[e1];refine Zir j2 k i2 ik (by simp only[YG,decide_eq_true_eq,beq_iff_eq];exact⟨by simp only[YP];omega,c3⟩) (w2 _) (wk _) ?_ ?_
  ·obtain⟨q1,q2⟩:=ex _ _ (.inl rfl);refine ZlM _ _ a2 w.heap.size _ [] q1 (ZkR g0 (Nat.le_refl _)) ad c S q2 (Gp _ As) (by simp only[List.length_nil];omega) As.size (fun v3 W3 own3 H4=>⟨Zhv H4 (fun q hq=>by cases hq;exact hX _ (Nat.le_refl _)),?_⟩);rw[YJ] at own3;rw[e2];have e3:=As.grown H4 (fun q hq=>by cases hq;exact Nat.le_refl _);refine Zh4 k ik (by simp only[YG,decide_eq_true_eq,beq_iff_eq];exact⟨by simp only[YP];omega,c6⟩) (wk _) ?_;refine Zf3 ⟨_,_,rk _ _ (.inr (.inr ⟨_,_,rfl⟩)),Ext.toX ((Ext.rfl' _).alloc _) X,?_⟩;rw[ek];exact h _ _ _ _ (e3.alloc _) (own3.ext ((Ext.rfl' _).alloc _)) ((Z3 _ _ _).trans (if_pos rfl))
  ·refine Zf3 ⟨_,_,rk _ _ (.inr (.inl ⟨_,rfl⟩)),Ext.toX ((Ext.rfl' _).alloc _) X,?_⟩;rw[ek];refine Zh4 j2 i2 (by simp only[YG,decide_eq_true_eq,beq_iff_eq];exact⟨by simp only[YP];omega,c5⟩) (w2 _) ?_;obtain⟨q1,q2⟩:=ex _ _ (.inr (.inl ⟨_,rfl⟩));have gB:=(Z3 (w.alloc (.cells #[] 51)) (.cells xs 51) (w.alloc (.cells #[] 51)).heap.size).trans (if_pos rfl);have Ke:=As.alloc (.cells xs 51);have g0B:=((Ext.rfl' (w.alloc (.cells #[] 51))).alloc (.cells xs 51)).get g0;refine ZlM _ _ a2 w.heap.size _ [] q1 (ZkR g0B (Nat.le_refl _)) ad c S q2 (Gp _ Ke) (by simp only[List.length_nil];omega) Ke.size (fun v3 W3 own3 H4=>⟨Zhv H4 (fun q hq=>by cases hq;exact hX _ (Nat.le_refl _)),?_⟩);rw[YJ] at own3;rw[e2];have e3:=Ke.grown H4 (fun q hq=>by cases hq;exact Nat.le_refl _);have gC:=(H4.block _ (Z5 gB) (by intro e;have e:=YT e;dsimp only at e;omega)).trans gB;have:=h W3 (.slice (some ⟨w.heap.size,0,none⟩) 0 0) v3 _ e3 own3 gC;rw[put_comm _ n2.symm] at this;exact this.perm m1.symm rfl
 ·refine Zf3 ⟨_,_,rk _ _ (.inl rfl),Ext.toX Ld X,?_⟩;rw[ek];refine Zh4 j1 i1 (by simp only[YG,decide_eq_true_eq,beq_iff_eq];exact⟨by simp only[YP];omega,c4⟩) (w1 _) ?_;refine Zf3 ⟨_,_,r1 _ _,Ext.toX ((Ext.rfl' _).alloc _) X,?_⟩;rw[e1];refine Zh4 j2 i2 (by simp only[YG,decide_eq_true_eq,beq_iff_eq];exact⟨by simp only[YP];omega,c7⟩) (w2 _) ?_;obtain⟨q1,q2⟩:=ex _ _ (.inr (.inr ⟨_,rfl⟩));have g0B:=(Z3 (w.alloc (.cells xs 51)) (.cells #[] 51) (w.alloc (.cells xs 51)).heap.size).trans (if_pos rfl);have Ke:=Ld.alloc (.cells #[] 51);have gB:=((Ext.rfl' (w.alloc (.cells xs 51))).alloc (.cells #[] 51)).get gk;refine ZlM _ _ a2 w.heap.size _ [] q1 (ZkR g0B (by omega)) ad c S q2 (Gp _ Ke) (by simp only[List.length_nil];omega) Ke.size (fun v3 W3 own3 H4=>⟨Zhv H4 (fun q hq=>by cases hq;exact hX _ (by show w.heap.size<=(w.alloc (.cells xs 51)).heap.size;omega)),?_⟩);rw[YJ] at own3;rw[e2];have e3:=Ke.grown H4 (fun q hq=>by cases hq;show w.heap.size<=(w.alloc (.cells xs 51)).heap.size;omega);have gC:=(H4.block _ (Z5 gB) (by intro e;have e:=YT e;dsimp only at e;omega)).trans gB;have:=h W3 (.slice (some ⟨(w.alloc (.cells xs 51)).heap.size,0,none⟩) 0 0) v3 _ e3 own3 gC
  rw[put_comm _ n2.symm,put_comm a n1.symm] at this;exact this.perm m2.symm rfl
end
end Go.Proofs.Tryq
end
