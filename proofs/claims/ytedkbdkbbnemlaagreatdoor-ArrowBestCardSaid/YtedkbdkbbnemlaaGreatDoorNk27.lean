import Derived.Test.YtedkbdkbbnemlaaGreatDoorNk26
set_option linter.all false
namespace Go.Proofs.Tryq
set_option maxRecDepth 100000
set_option maxHeartbeats 4000000
open Go Go.Nk Go.RowKit
theorem ZfT{x:Int}(h0:0≤x)(h:(x==0)=false):0<x:=by simp at h;omega
theorem Zgd(r0 r1 r2 r3:Int)(base:Option Addr)(n cap:Nat)(u1 u2 mk:Int)(w:World)
 (hfair:∀W,Ext w W→Calls prog 42 #[.agg #[.int .i64 r0,.int .i64 r1,.int .i64 r2,.int .i64 r3,.slice base n cap]] W fun e w'=>e= .returned (.bool false)∧Ext W w')
 (hsh:∀W,Ext w W→Calls prog 22 #[] W fun e w'=>e= .returned (.bool true)∧Ext W w'):
 Calls prog 10 #[.agg #[.int .i64 r0,.int .i64 r1,.int .i64 r2,.int .i64 r3,.slice base n cap],.int .u8 u1,.int .u8 u2,.int .u16 mk] w fun e w'=>e= .returned (.bool true):=by
 go_enter func10,ntmps10
 go_wp2_with fail
 have hE1:=(Ext.rfl' w).alloc (.cells #[.int .i64 r0,.int .i64 r1,.int .i64 r2,.int .i64 r3,.slice base n cap] 70)
 have hr:(w.alloc (.cells #[.int .i64 r0,.int .i64 r1,.int .i64 r2,.int .i64 r3,.slice base n cap] 70)).heap[w.heap.size]? =some (.cells #[.int .i64 r0,.int .i64 r1,.int .i64 r2,.int .i64 r3,.slice base n cap] 70):=by rw[Z3,if_pos rfl]
 generalize World.alloc w _=w1 at hE1 hr⊢
 have q0:=Z0 hr 0;have q1:=Z0 hr 1;have q2:=Z0 hr 2;have q3:=Z0 hr 3;have q4:=Z0 hr 4
 simp only[List.getElem?_toArray,List.getElem?_cons_zero,List.getElem?_cons_succ] at q0 q1 q2 q3 q4
 have g0:=Zet q0;have g1:=Zet q1;have g2:=Zet q2;have g3:=Zet q3;have g4:=Zet q4
 refine ZeG 18 (by kernel_rfl) ?_
 refine ZeB [0] (by kernel_rfl) (by kernel_rfl) ?_
 simp only[ZeD,List.getElem?_cons_succ,List.getElem?_cons_zero,List.cons_append,List.nil_append]
 repeat (go_big_quiet_step (fail))
 refine wpQuiet_nil ?_
 refine ZeX 1 (f:=42) (args:= #[.agg #[.int .i64 r0,.int .i64 r1,.int .i64 r2,.int .i64 r3,.slice base n cap]]) (v:= .bool false) (by kernel_rfl) rfl (by kernel_rfl) rfl (fun W=>by simp[go_sem,execOp,Act.eval]) (fun W hW=>hfair W (hE1.trans hW)) ?_
 go_simp
 refine ZeB [2,3,4,5,6,7] (by kernel_rfl) (by kernel_rfl) ?_
 simp only[ZeD,List.getElem?_cons_succ,List.getElem?_cons_zero,List.cons_append,List.nil_append]
 repeat (go_big_quiet_step (fail))
 refine wpQuiet_nil ?_
 refine Zg4 8 (by kernel_rfl) rfl (by kernel_rfl) rfl ?_
 go_simp
 refine Zg4 9 (by kernel_rfl) rfl (by kernel_rfl) rfl ?_
 go_simp
 refine ZeB [10,11,12,13,14,15,16,17] (by kernel_rfl) (by kernel_rfl) ?_
 simp only[ZeD,List.getElem?_cons_succ,List.getElem?_cons_zero,List.cons_append,List.nil_append]
 repeat (go_big_quiet_step (fail))
 refine wpQuiet_nil ?_
 refine Zf6 (by kernel_rfl) (fun W hW=> ?_)
 have hE2:=hE1.trans hW
 clear hr q0 q1 q2 q3 q4 g0 g1 g2 g3 g4
 go_wp2_with (first|(go_at_call 22;refine(hsh _ hE2).mono ?_;rintro e w3 ⟨rfl,hE4⟩))
 go_ret
 exact rfl
theorem Zge(r0 r1 r2 r3:Int)(base:Option Addr)(n cap:Nat)(u1 u2 mk:Int)(w:World)
 (hfair:∀W,Ext w W→Calls prog 42 #[.agg #[.int .i64 r0,.int .i64 r1,.int .i64 r2,.int .i64 r3,.slice base n cap]] W fun e w'=>e= .returned (.bool true)∧Ext W w')
 (hup:∀W,Ext w W→Calls prog 44 #[.int .i64 n] W fun e w'=>∃x,e= .returned x∧(∃ao cp,x= .slice ao n cp∧RawI w' ao (upL n)∧n≤cp)∧Ext W w')
 (hfit:∀W ao cp,Ext w W→RawI W ao (upL n)→n≤cp→Calls prog 43 #[.agg #[.int .i64 r0,.int .i64 r1,.int .i64 r2,.int .i64 r3,.slice base n cap],.slice ao n cp] W fun e w'=>e= .returned (.bool false)∧Ext W w')
 (hsh:∀W,Ext w W→Calls prog 22 #[] W fun e w'=>e= .returned (.bool true)∧Ext W w'):
 Calls prog 10 #[.agg #[.int .i64 r0,.int .i64 r1,.int .i64 r2,.int .i64 r3,.slice base n cap],.int .u8 u1,.int .u8 u2,.int .u16 mk] w fun e w'=>e= .returned (.bool true):=by
 go_enter func10,ntmps10
 go_wp2_with fail
 have hE1:=(Ext.rfl' w).alloc (.cells #[.int .i64 r0,.int .i64 r1,.int .i64 r2,.int .i64 r3,.slice base n cap] 70)
 have hr:(w.alloc (.cells #[.int .i64 r0,.int .i64 r1,.int .i64 r2,.int .i64 r3,.slice base n cap] 70)).heap[w.heap.size]? =some (.cells #[.int .i64 r0,.int .i64 r1,.int .i64 r2,.int .i64 r3,.slice base n cap] 70):=by rw[Z3,if_pos rfl]
 generalize World.alloc w _=w1 at hE1 hr⊢
 have q0:=Z0 hr 0;have q1:=Z0 hr 1;have q2:=Z0 hr 2;have q3:=Z0 hr 3;have q4:=Z0 hr 4
 simp only[List.getElem?_toArray,List.getElem?_cons_zero,List.getElem?_cons_succ] at q0 q1 q2 q3 q4
 have g0:=Zet q0;have g1:=Zet q1;have g2:=Zet q2;have g3:=Zet q3;have g4:=Zet q4
 refine ZeG 18 (by kernel_rfl) ?_
 refine ZeB [0] (by kernel_rfl) (by kernel_rfl) ?_
 simp only[ZeD,List.getElem?_cons_succ,List.getElem?_cons_zero,List.cons_append,List.nil_append]
 repeat (go_big_quiet_step (fail))
 refine wpQuiet_nil ?_
 refine ZeX 1 (f:=42) (args:= #[.agg #[.int .i64 r0,.int .i64 r1,.int .i64 r2,.int .i64 r3,.slice base n cap]]) (v:= .bool true) (by kernel_rfl) rfl (by kernel_rfl) rfl (fun W=>by simp[go_sem,execOp,Act.eval]) (fun W hW=>hfair W (hE1.trans hW)) ?_
 go_simp
 refine ZeB [2,3,4,5,6,7] (by kernel_rfl) (by kernel_rfl) ?_
 simp only[ZeD,List.getElem?_cons_succ,List.getElem?_cons_zero,List.cons_append,List.nil_append]
 repeat (go_big_quiet_step (fail))
 refine wpQuiet_nil ?_
 refine Zfa 8 rfl (by kernel_rfl) rfl (fun W hW=>Zfo (f:=44) (args:= #[.int .i64 n]) (by simp[go_sem,execOp,Act.eval]) ?_)
 refine(hup W (hE1.trans hW)).mono ?_
 rintro e W2 ⟨x,rfl,hx,hE3⟩
 obtain⟨ao,cp,rfl,hI,hcp⟩:=hx
 refine⟨.slice ao n cp,rfl,hE3,?_⟩
 have hE5:=hW.trans hE3
 clear hE3 hW
 clear W
 clear g0 g1 g2 g3 g4 q0 q1 q2 q3 q4
 replace hr:=hE5.get hr
 have q0:=Z0 hr 0;have q1:=Z0 hr 1;have q2:=Z0 hr 2;have q3:=Z0 hr 3;have q4:=Z0 hr 4
 simp only[List.getElem?_toArray,List.getElem?_cons_zero,List.getElem?_cons_succ] at q0 q1 q2 q3 q4
 have g0:=Zet q0;have g1:=Zet q1;have g2:=Zet q2;have g3:=Zet q3;have g4:=Zet q4
 go_simp
 refine ZeX 9 (f:=43) (args:= #[.agg #[.int .i64 r0,.int .i64 r1,.int .i64 r2,.int .i64 r3,.slice base n cap],.slice ao n cp]) (v:= .bool false) (by kernel_rfl) rfl (by kernel_rfl) rfl (fun W=>by simp[go_sem,execOp,Act.eval]) (fun W hW=>hfit W ao cp (hE1.trans (hE5.trans hW)) (hI.ext hW) hcp) ?_
 go_simp
 refine ZeB [10,11,12,13,14,15,16,17] (by kernel_rfl) (by kernel_rfl) ?_
 simp only[ZeD,List.getElem?_cons_succ,List.getElem?_cons_zero,List.cons_append,List.nil_append]
 repeat (go_big_quiet_step (fail))
 refine wpQuiet_nil ?_
 refine Zf6 (by kernel_rfl) (fun W hW=> ?_)
 have hE2:=hE1.trans (hE5.trans hW)
 clear hr q0 q1 q2 q3 q4 g0 g1 g2 g3 g4
 go_wp2_with (first|(go_at_call 22;refine(hsh _ hE2).mono ?_;rintro e w3 ⟨rfl,hE4⟩))
 go_ret
 exact rfl
theorem Zgf(r0 r1 r2 r3:Int)(base:Option Addr)(n cap:Nat)(u1 u2 mk:Int)(w:World)
 (hfair:∀W,Ext w W→Calls prog 42 #[.agg #[.int .i64 r0,.int .i64 r1,.int .i64 r2,.int .i64 r3,.slice base n cap]] W fun e w'=>e= .returned (.bool true)∧Ext W w')
 (hup:∀W,Ext w W→Calls prog 44 #[.int .i64 n] W fun e w'=>∃x,e= .returned x∧(∃ao cp,x= .slice ao n cp∧RawI w' ao (upL n)∧n≤cp)∧Ext W w')
 (hfit:∀W ao cp,Ext w W→RawI W ao (upL n)→n≤cp→Calls prog 43 #[.agg #[.int .i64 r0,.int .i64 r1,.int .i64 r2,.int .i64 r3,.slice base n cap],.slice ao n cp] W fun e w'=>e= .returned (.bool true)∧Ext W w')
 (hn0:((n:Int)==0)=true)
 (hsh:∀W,Ext w W→Calls prog 22 #[] W fun e w'=>e= .returned (.bool true)∧Ext W w'):
 Calls prog 10 #[.agg #[.int .i64 r0,.int .i64 r1,.int .i64 r2,.int .i64 r3,.slice base n cap],.int .u8 u1,.int .u8 u2,.int .u16 mk] w fun e w'=>e= .returned (.bool true):=by
 go_enter func10,ntmps10
 go_wp2_with fail
 have hE1:=(Ext.rfl' w).alloc (.cells #[.int .i64 r0,.int .i64 r1,.int .i64 r2,.int .i64 r3,.slice base n cap] 70)
 have hr:(w.alloc (.cells #[.int .i64 r0,.int .i64 r1,.int .i64 r2,.int .i64 r3,.slice base n cap] 70)).heap[w.heap.size]? =some (.cells #[.int .i64 r0,.int .i64 r1,.int .i64 r2,.int .i64 r3,.slice base n cap] 70):=by rw[Z3,if_pos rfl]
 generalize World.alloc w _=w1 at hE1 hr⊢
 have q0:=Z0 hr 0;have q1:=Z0 hr 1;have q2:=Z0 hr 2;have q3:=Z0 hr 3;have q4:=Z0 hr 4
 simp only[List.getElem?_toArray,List.getElem?_cons_zero,List.getElem?_cons_succ] at q0 q1 q2 q3 q4
 have g0:=Zet q0;have g1:=Zet q1;have g2:=Zet q2;have g3:=Zet q3;have g4:=Zet q4
 refine ZeG 18 (by kernel_rfl) ?_
 refine ZeB [0] (by kernel_rfl) (by kernel_rfl) ?_
 simp only[ZeD,List.getElem?_cons_succ,List.getElem?_cons_zero,List.cons_append,List.nil_append]
 repeat (go_big_quiet_step (fail))
 refine wpQuiet_nil ?_
 refine ZeX 1 (f:=42) (args:= #[.agg #[.int .i64 r0,.int .i64 r1,.int .i64 r2,.int .i64 r3,.slice base n cap]]) (v:= .bool true) (by kernel_rfl) rfl (by kernel_rfl) rfl (fun W=>by simp[go_sem,execOp,Act.eval]) (fun W hW=>hfair W (hE1.trans hW)) ?_
 go_simp
 refine ZeB [2,3,4,5,6,7] (by kernel_rfl) (by kernel_rfl) ?_
 simp only[ZeD,List.getElem?_cons_succ,List.getElem?_cons_zero,List.cons_append,List.nil_append]
 repeat (go_big_quiet_step (fail))
 refine wpQuiet_nil ?_
 refine Zfa 8 rfl (by kernel_rfl) rfl (fun W hW=>Zfo (f:=44) (args:= #[.int .i64 n]) (by simp[go_sem,execOp,Act.eval]) ?_)
 refine(hup W (hE1.trans hW)).mono ?_
 rintro e W2 ⟨x,rfl,hx,hE3⟩
 obtain⟨ao,cp,rfl,hI,hcp⟩:=hx
 refine⟨.slice ao n cp,rfl,hE3,?_⟩
 have hE5:=hW.trans hE3
 clear hE3 hW
 clear W
 clear g0 g1 g2 g3 g4 q0 q1 q2 q3 q4
 replace hr:=hE5.get hr
 have q0:=Z0 hr 0;have q1:=Z0 hr 1;have q2:=Z0 hr 2;have q3:=Z0 hr 3;have q4:=Z0 hr 4
 simp only[List.getElem?_toArray,List.getElem?_cons_zero,List.getElem?_cons_succ] at q0 q1 q2 q3 q4
 have g0:=Zet q0;have g1:=Zet q1;have g2:=Zet q2;have g3:=Zet q3;have g4:=Zet q4
 go_simp
 refine ZeX 9 (f:=43) (args:= #[.agg #[.int .i64 r0,.int .i64 r1,.int .i64 r2,.int .i64 r3,.slice base n cap],.slice ao n cp]) (v:= .bool true) (by kernel_rfl) rfl (by kernel_rfl) rfl (fun W=>by simp[go_sem,execOp,Act.eval]) (fun W hW=>hfit W ao cp (hE1.trans (hE5.trans hW)) (hI.ext hW) hcp) ?_
 go_simp
 refine ZeB [10,11,12,13,14,15,16,17] (by kernel_rfl) (by kernel_rfl) ?_
 simp only[ZeD,List.getElem?_cons_succ,List.getElem?_cons_zero,List.cons_append,List.nil_append]
 repeat (go_big_quiet_step (fail))
 refine wpQuiet_nil ?_
 refine Zf6 (by kernel_rfl) (fun W hW=> ?_)
 have hE2:=hE1.trans (hE5.trans hW)
 clear hr q0 q1 q2 q3 q4 g0 g1 g2 g3 g4
 go_wp2_with (first|(go_at_call 22;refine(hsh _ hE2).mono ?_;rintro e w3 ⟨rfl,hE4⟩))
 go_ret
 exact rfl
theorem Zg7(r0 r1 r2 r3:Int)(base:Option Addr)(n cap:Nat)(u1 u2 mk:Int)(w:World)
 (hfair:∀W,Ext w W→Calls prog 42 #[.agg #[.int .i64 r0,.int .i64 r1,.int .i64 r2,.int .i64 r3,.slice base n cap]] W fun e w'=>e= .returned (.bool true)∧Ext W w')
 (hup:∀W,Ext w W→Calls prog 44 #[.int .i64 n] W fun e w'=>∃x,e= .returned x∧(∃ao cp,x= .slice ao n cp∧RawI w' ao (upL n)∧n≤cp)∧Ext W w')
 (hfit:∀W ao cp,Ext w W→RawI W ao (upL n)→n≤cp→Calls prog 43 #[.agg #[.int .i64 r0,.int .i64 r1,.int .i64 r2,.int .i64 r3,.slice base n cap],.slice ao n cp] W fun e w'=>e= .returned (.bool true)∧Ext W w')
 (hn0:((n:Int)==0)=false)(hu1:0≤u1∧u1<256)(hu2:0≤u2∧u2<256)(hmk:0≤mk∧mk<65536)(d e at':Int)(N off off2 s2 s3 x0 x1:Int)
 (hd:Hid (d=min (min u1 u2 % 91) (max u1 u2 % 91)))(he:Hid (e=max (min u1 u2 % 91) (max u1 u2 % 91)))
 (hb1:∀W,Ext w W→Calls prog 51 #[.agg #[.int .i64 r0,.int .i64 r1,.int .i64 r2,.int .i64 r3,.slice base n cap],.int .i64 d] W fun e w'=>e= .returned (.tuple #[.int .i64 N,.int .i64 off,.int .i64 0])∧Ext W w')
 (hwd:∀W,Ext w W→Calls prog 52 #[.agg #[.int .i64 r0,.int .i64 r1,.int .i64 r2,.int .i64 r3,.slice base n cap],.int .i64 d,.int .i64 e] W fun e w'=>e= .returned (.tuple #[.int .i64 at',.agg #[.int .i64 x0,.int .i64 x1],.int .i64 0])∧Ext W w')
 (hma:∀W,Ext w W→Calls prog 45 #[.agg #[.int .i64 r0,.int .i64 r1,.int .i64 r2,.int .i64 r3,.slice base n cap],.int .i64 at'] W fun e w'=>e= .returned (.tuple #[.agg #[.int .i64 x0,.int .i64 x1],.int .i64 0])∧Ext W w')
 (hb2:∀W,Ext w W→Calls prog 51 #[.agg #[.int .i64 r0,.int .i64 r1,.int .i64 r2,.int .i64 r3,.slice base n cap],.int .i64 at'] W fun e w'=>∃N2,e= .returned (.tuple #[.int .i64 N2,.int .i64 off2,.int .i64 0])∧Ext W w')
 (hat:d≤at'∧at'≤e)(hof:0≤off∧off≤off2)
 (hh1: -99999≤N→N≤99999→off≤99999→∀W,Ext w W→Calls prog 53 #[.agg #[.int .i64 r0,.int .i64 r1,.int .i64 r2,.int .i64 r3,.slice base n cap],.int .i64 d,.int .i64 N,.int .i64 off] W fun e w'=>e= .returned (.tuple #[.int .i64 1,.int .i64 0])∧Ext W w')
 (hh2:off≤99999→0<off→∀W,Ext w W→Calls prog 53 #[.agg #[.int .i64 r0,.int .i64 r1,.int .i64 r2,.int .i64 r3,.slice base n cap],.int .i64 d,.int .i64 mk,.int .i64 (off - 1)] W fun e w'=>e= .returned (.tuple #[.int .i64 s2,.int .i64 0])∧Ext W w')
 (hh3: -99999≤N→N≤99999→off≤99999→0<off→∀W,Ext w W→Calls prog 53 #[.agg #[.int .i64 r0,.int .i64 r1,.int .i64 r2,.int .i64 r3,.slice base n cap],.int .i64 d,.int .i64 N,.int .i64 (off - 1)] W fun e w'=>e= .returned (.tuple #[.int .i64 s3,.int .i64 0])∧Ext W w')
 (hs2:(s2 !=1)=true)(hs3:(s3 !=1)=true)
 (hsh:∀W,Ext w W→Calls prog 22 #[] W fun e w'=>e= .returned (.bool true)∧Ext W w'):
 Calls prog 10 #[.agg #[.int .i64 r0,.int .i64 r1,.int .i64 r2,.int .i64 r3,.slice base n cap],.int .u8 u1,.int .u8 u2,.int .u16 mk] w fun e w'=>e= .returned (.bool true):=by
 go_enter func10,ntmps10
 go_wp2_with fail
 have hE1:=(Ext.rfl' w).alloc (.cells #[.int .i64 r0,.int .i64 r1,.int .i64 r2,.int .i64 r3,.slice base n cap] 70)
 have hr:(w.alloc (.cells #[.int .i64 r0,.int .i64 r1,.int .i64 r2,.int .i64 r3,.slice base n cap] 70)).heap[w.heap.size]? =some (.cells #[.int .i64 r0,.int .i64 r1,.int .i64 r2,.int .i64 r3,.slice base n cap] 70):=by rw[Z3,if_pos rfl]
 generalize World.alloc w _=w1 at hE1 hr⊢
 have q0:=Z0 hr 0;have q1:=Z0 hr 1;have q2:=Z0 hr 2;have q3:=Z0 hr 3;have q4:=Z0 hr 4
 simp only[List.getElem?_toArray,List.getElem?_cons_zero,List.getElem?_cons_succ] at q0 q1 q2 q3 q4
 have g0:=Zet q0;have g1:=Zet q1;have g2:=Zet q2;have g3:=Zet q3;have g4:=Zet q4
 refine ZeG 18 (by kernel_rfl) ?_
 refine ZeB [0] (by kernel_rfl) (by kernel_rfl) ?_
 simp only[ZeD,List.getElem?_cons_succ,List.getElem?_cons_zero,List.cons_append,List.nil_append]
 repeat (go_big_quiet_step (fail))
 refine wpQuiet_nil ?_
 refine ZeX 1 (f:=42) (args:= #[.agg #[.int .i64 r0,.int .i64 r1,.int .i64 r2,.int .i64 r3,.slice base n cap]]) (v:= .bool true) (by kernel_rfl) rfl (by kernel_rfl) rfl (fun W=>by simp[go_sem,execOp,Act.eval]) (fun W hW=>hfair W (hE1.trans hW)) ?_
 go_simp
 refine ZeB [2,3,4,5,6,7] (by kernel_rfl) (by kernel_rfl) ?_
 simp only[ZeD,List.getElem?_cons_succ,List.getElem?_cons_zero,List.cons_append,List.nil_append]
 repeat (go_big_quiet_step (fail))
 refine wpQuiet_nil ?_
 refine Zfa 8 rfl (by kernel_rfl) rfl (fun W hW=>Zfo (f:=44) (args:= #[.int .i64 n]) (by simp[go_sem,execOp,Act.eval]) ?_)
 refine(hup W (hE1.trans hW)).mono ?_
 rintro e W2 ⟨x,rfl,hx,hE3⟩
 obtain⟨ao,cp,rfl,hI,hcp⟩:=hx
 refine⟨.slice ao n cp,rfl,hE3,?_⟩
 have hE5:=hW.trans hE3
 clear hE3 hW
 clear W
 clear g0 g1 g2 g3 g4 q0 q1 q2 q3 q4
 replace hr:=hE5.get hr
 have q0:=Z0 hr 0;have q1:=Z0 hr 1;have q2:=Z0 hr 2;have q3:=Z0 hr 3;have q4:=Z0 hr 4
 simp only[List.getElem?_toArray,List.getElem?_cons_zero,List.getElem?_cons_succ] at q0 q1 q2 q3 q4
 have g0:=Zet q0;have g1:=Zet q1;have g2:=Zet q2;have g3:=Zet q3;have g4:=Zet q4
 go_simp
 refine ZeX 9 (f:=43) (args:= #[.agg #[.int .i64 r0,.int .i64 r1,.int .i64 r2,.int .i64 r3,.slice base n cap],.slice ao n cp]) (v:= .bool true) (by kernel_rfl) rfl (by kernel_rfl) rfl (fun W=>by simp[go_sem,execOp,Act.eval]) (fun W hW=>hfit W ao cp (hE1.trans (hE5.trans hW)) (hI.ext hW) hcp) ?_
 go_simp
 refine ZeB [10,11,12,13,14,15,16,17] (by kernel_rfl) (by kernel_rfl) ?_
 simp only[ZeD,List.getElem?_cons_succ,List.getElem?_cons_zero,List.cons_append,List.nil_append]
 repeat (go_big_quiet_step (fail))
 refine wpQuiet_nil ?_
 refine Zf6 (by kernel_rfl) (fun W hW=> ?_)
 have hE2:=hE1.trans (hE5.trans hW)
 replace hr:=hW.get hr
 clear q0 q1 q2 q3 q4 g0 g1 g2 g3 g4 hfair hup hfit hI hcp hE1 hE5 hW
 have q0:=Z0 hr 0;have q1:=Z0 hr 1;have q2:=Z0 hr 2;have q3:=Z0 hr 3;have q4:=Z0 hr 4
 simp only[List.getElem?_toArray,List.getElem?_cons_zero,List.getElem?_cons_succ] at q0 q1 q2 q3 q4
 go_wp2_with fail
 all_goals first
  |(have hde:e=d:=(by rw[he.out,hd.out];omega);have h1:u1 % 91=d:=(by rw[hd.out];omega);have h2:u2 % 91=d:=(by rw[hd.out];omega);subst hde;simp only[h1,h2];clear h1 h2)
  |(have h1:u1 % 91=d:=(by rw[hd.out];omega);have h2:u2 % 91=e:=(by rw[he.out];omega);simp only[h1,h2];clear h1 h2)
  |(have h1:u1 % 91=e:=(by rw[he.out];omega);have h2:u2 % 91=d:=(by rw[hd.out];omega);simp only[h1,h2];clear h1 h2)
 all_goals clear hd he
 all_goals go_wp2_with (first
  |(go_at_call 51;(with_reducible refine(hb1 _ hE2).mono ?_);rintro e9 w3 ⟨rfl,hF⟩;replace hE2:=hE2.trans hF;replace hr:=hF.get hr;clear hF q0 q1 q2 q3 q4;(try clear hl);have hl:=Z5 hr;have q0:=Z0 hr 0;have q1:=Z0 hr 1;have q2:=Z0 hr 2;have q3:=Z0 hr 3;have q4:=Z0 hr 4;simp only[List.getElem?_toArray,List.getElem?_cons_zero,List.getElem?_cons_succ] at q0 q1 q2 q3 q4)
  |(go_at_call 52;(with_reducible refine(hwd _ hE2).mono ?_);rintro e9 w4 ⟨rfl,hF⟩;replace hE2:=hE2.trans hF;replace hr:=hF.get hr;clear hF q0 q1 q2 q3 q4;(try clear hl);have hl:=Z5 hr;have q0:=Z0 hr 0;have q1:=Z0 hr 1;have q2:=Z0 hr 2;have q3:=Z0 hr 3;have q4:=Z0 hr 4;simp only[List.getElem?_toArray,List.getElem?_cons_zero,List.getElem?_cons_succ] at q0 q1 q2 q3 q4)
  |(go_at_call 45;(with_reducible refine(hma _ (hE2.alloc _)).mono ?_);rintro e9 w5 ⟨rfl,hF⟩;have hx:=hF.get (b:=w4.heap.size) (o:= .cells #[.int .i64 x0,.int .i64 x1] 48) ((Z3 _ _ _).trans (if_pos rfl));replace hr:=hF.get (((Ext.rfl' _).alloc _).get hr);replace hE2:=(hE2.alloc _).trans hF;clear hF q0 q1 q2 q3 q4;(try clear hl);have hl:=Z5 hr;have q0:=Z0 hr 0;have q1:=Z0 hr 1;have q2:=Z0 hr 2;have q3:=Z0 hr 3;have q4:=Z0 hr 4;simp only[List.getElem?_toArray,List.getElem?_cons_zero,List.getElem?_cons_succ] at q0 q1 q2 q3 q4)
  |(go_at_call 51;(with_reducible refine(hb2 _ (hE2.alloc _)).mono ?_);rintro e9 w6 ⟨N2,rfl,hF⟩;have hy:=hF.get (b:=w5.heap.size) (o:= .cells #[.int .i64 x0,.int .i64 x1] 48) ((Z3 _ _ _).trans (if_pos rfl));replace hx:=hF.get (((Ext.rfl' _).alloc _).get hx);replace hr:=hF.get (((Ext.rfl' _).alloc _).get hr);replace hE2:=(hE2.alloc _).trans hF;clear hF q0 q1 q2 q3 q4;(try clear hl);have hl:=Z5 hr;have q0:=Z0 hr 0;have q1:=Z0 hr 1;have q2:=Z0 hr 2;have q3:=Z0 hr 3;have q4:=Z0 hr 4;simp only[List.getElem?_toArray,List.getElem?_cons_zero,List.getElem?_cons_succ] at q0 q1 q2 q3 q4;have y:=Zc hx;have y0:=y.1;have y1:=y.2.1;have z:=Zc hy;have z0:=z.1;have z1:=z.2.1;clear y z hx hy)
  |(go_at_call 53;(with_reducible refine(hh1 (by omega) (by omega) (by omega) _ hE2).mono ?_);rintro e9 w7 ⟨rfl,hF⟩;replace hE2:=hE2.trans hF;replace hr:=hF.get hr;clear hF q0 q1 q2 q3 q4;(try clear hl);have hl:=Z5 hr;have q0:=Z0 hr 0;have q1:=Z0 hr 1;have q2:=Z0 hr 2;have q3:=Z0 hr 3;have q4:=Z0 hr 4;simp only[List.getElem?_toArray,List.getElem?_cons_zero,List.getElem?_cons_succ] at q0 q1 q2 q3 q4)
  |(go_at_call 53;(with_reducible refine(hh2 (by omega) (ZfT hof.1 (by assumption)) _ hE2).mono ?_);rintro e9 w7 ⟨rfl,hF⟩;replace hE2:=hE2.trans hF;replace hr:=hF.get hr;clear hF q0 q1 q2 q3 q4;(try clear hl);have hl:=Z5 hr;have q0:=Z0 hr 0;have q1:=Z0 hr 1;have q2:=Z0 hr 2;have q3:=Z0 hr 3;have q4:=Z0 hr 4;simp only[List.getElem?_toArray,List.getElem?_cons_zero,List.getElem?_cons_succ] at q0 q1 q2 q3 q4)
  |(go_at_call 53;(with_reducible refine(hh3 (by omega) (by omega) (by omega) (ZfT hof.1 (by assumption)) _ hE2).mono ?_);rintro e9 w7 ⟨rfl,hF⟩;replace hE2:=hE2.trans hF;replace hr:=hF.get hr;clear hF q0 q1 q2 q3 q4;(try clear hl);have hl:=Z5 hr;have q0:=Z0 hr 0;have q1:=Z0 hr 1;have q2:=Z0 hr 2;have q3:=Z0 hr 3;have q4:=Z0 hr 4;simp only[List.getElem?_toArray,List.getElem?_cons_zero,List.getElem?_cons_succ] at q0 q1 q2 q3 q4)
  |(go_at_call 22;(with_reducible refine(hsh _ hE2).mono ?_);rintro e9 w8 ⟨rfl,hF⟩))
 all_goals (go_ret;exact rfl)
 end Go.Proofs.Tryq
