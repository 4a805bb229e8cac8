import Derived.Test.YtedkbdkbbnemlaaGreatDoorNk30
set_option linter.all false
namespace Go.Proofs.Tryq
set_option maxRecDepth 100000
set_option maxHeartbeats 8000000
open Go Go.Nk Go.RowKit
set_option linter.all false
theorem Zkg(r0 r1 r2 r3:Int)(base:Option Addr)(n cap:Nat)(b wh at9:Int)(w:World)
 (Dh:∀W,Ext w W->Calls prog 42 #[.agg #[.int .i64 r0,.int .i64 r1,.int .i64 r2,.int .i64 r3,.slice base n cap]] W fun e w'=>e= .returned (.bool false)/\Ext W w')
 (B9:∀W,Ext w W->Calls prog 22 #[] W fun e w'=>e= .returned (.bool true)/\Ext W w'):
 Calls prog 20 #[.agg #[.int .i64 r0,.int .i64 r1,.int .i64 r2,.int .i64 r3,.slice base n cap],.int .u8 b,.int .u8 wh,.int .u8 at9] w fun e w'=>e= .returned (.bool true):=by
 go_enter func20,ntmps20;go_wp2_with fail;have Af:=(Ext.rfl' w).alloc (.cells #[.int .i64 r0,.int .i64 r1,.int .i64 r2,.int .i64 r3,.slice base n cap] 70);have hr:(w.alloc (.cells #[.int .i64 r0,.int .i64 r1,.int .i64 r2,.int .i64 r3,.slice base n cap] 70)).heap[w.heap.size]? =some (.cells #[.int .i64 r0,.int .i64 r1,.int .i64 r2,.int .i64 r3,.slice base n cap] 70):=(Z3 _ _ _).trans (if_pos rfl);generalize World.alloc _ _=w1 at Af hr⊢;obtain⟨q0,q1,q2,q3,q4⟩:=ZgE hr;have g0:=Zet q0;have g1:=Zet q1;have g2:=Zet q2;have g3:=Zet q3;have g4:=Zet q4;refine ZeG 18 (by kernel_rfl) ?_;refine ZeB [0] (by kernel_rfl) (by kernel_rfl) ?_;simp only[ZeD,List.getElem?_cons_succ,List.getElem?_cons_zero,List.cons_append,List.nil_append]
 repeat (go_big_quiet_step (fail))
 refine wpQuiet_nil ?_;refine ZeX 1 (f:=42) (args:= #[.agg #[.int .i64 r0,.int .i64 r1,.int .i64 r2,.int .i64 r3,.slice base n cap]]) (v:= .bool false) (by kernel_rfl) rfl (by kernel_rfl) rfl (fun W=>by simp[go_sem,execOp,Act.eval]) (fun W hW=>Dh W (Af.trans hW)) ?_;go_simp;refine ZeB [2,3,4,5,6,7] (by kernel_rfl) (by kernel_rfl) ?_;simp only[ZeD,List.getElem?_cons_succ,List.getElem?_cons_zero,List.cons_append,List.nil_append]
 repeat (go_big_quiet_step (fail))
 refine wpQuiet_nil ?_;refine Zg4 8 (by kernel_rfl) rfl (by kernel_rfl) rfl ?_;go_simp;refine Zg4 9 (by kernel_rfl) rfl (by kernel_rfl) rfl ?_;go_simp;refine ZeB [10,11,12,13,14,15,16,17] (by kernel_rfl) (by kernel_rfl) ?_;simp only[ZeD,List.getElem?_cons_succ,List.getElem?_cons_zero,List.cons_append,List.nil_append]
 repeat (go_big_quiet_step (fail))
 refine wpQuiet_nil ?_;refine Zf6 (by kernel_rfl) (fun W hW=> ?_);have A7:=Af.trans hW;clear hr q0 q1 q2 q3 q4 g0 g1 g2 g3 g4;go_wp2_with (first|(go_at_call 22;refine(B9 _ A7).mono ?_;rintro e w3 ⟨rfl,Am⟩));go_ret;exact rfl
theorem Zkh(r0 r1 r2 r3:Int)(base:Option Addr)(n cap:Nat)(b wh at9:Int)(w:World)
 (Dh:∀W,Ext w W->Calls prog 42 #[.agg #[.int .i64 r0,.int .i64 r1,.int .i64 r2,.int .i64 r3,.slice base n cap]] W fun e w'=>e= .returned (.bool true)/\Ext W w')
 (Cq:∀W,Ext w W->Calls prog 44 #[.int .i64 n] W fun e w'=>∃ao cp,e= .returned (.slice ao n cp)/\RawI w' ao (upL n)/\n<=cp/\Ext W w')
 (Bz:∀W ao cp,Ext w W->RawI W ao (upL n)->n<=cp->Calls prog 43 #[.agg #[.int .i64 r0,.int .i64 r1,.int .i64 r2,.int .i64 r3,.slice base n cap],.slice ao n cp] W fun e w'=>e= .returned (.bool false)/\Ext W w')
 (B9:∀W,Ext w W->Calls prog 22 #[] W fun e w'=>e= .returned (.bool true)/\Ext W w'):
 Calls prog 20 #[.agg #[.int .i64 r0,.int .i64 r1,.int .i64 r2,.int .i64 r3,.slice base n cap],.int .u8 b,.int .u8 wh,.int .u8 at9] w fun e w'=>e= .returned (.bool true):=by
 go_enter func20,ntmps20;go_wp2_with fail;have Af:=(Ext.rfl' w).alloc (.cells #[.int .i64 r0,.int .i64 r1,.int .i64 r2,.int .i64 r3,.slice base n cap] 70);have hr:(w.alloc (.cells #[.int .i64 r0,.int .i64 r1,.int .i64 r2,.int .i64 r3,.slice base n cap] 70)).heap[w.heap.size]? =some (.cells #[.int .i64 r0,.int .i64 r1,.int .i64 r2,.int .i64 r3,.slice base n cap] 70):=(Z3 _ _ _).trans (if_pos rfl);generalize World.alloc _ _=w1 at Af hr⊢;obtain⟨q0,q1,q2,q3,q4⟩:=ZgE hr;have g0:=Zet q0;have g1:=Zet q1;have g2:=Zet q2;have g3:=Zet q3;have g4:=Zet q4;refine ZeG 18 (by kernel_rfl) ?_;refine ZeB [0] (by kernel_rfl) (by kernel_rfl) ?_;simp only[ZeD,List.getElem?_cons_succ,List.getElem?_cons_zero,List.cons_append,List.nil_append]
 repeat (go_big_quiet_step (fail))
 refine wpQuiet_nil ?_;refine ZeX 1 (f:=42) (args:= #[.agg #[.int .i64 r0,.int .i64 r1,.int .i64 r2,.int .i64 r3,.slice base n cap]]) (v:= .bool true) (by kernel_rfl) rfl (by kernel_rfl) rfl (fun W=>by simp[go_sem,execOp,Act.eval]) (fun W hW=>Dh W (Af.trans hW)) ?_;go_simp;refine ZeB [2,3,4,5,6,7] (by kernel_rfl) (by kernel_rfl) ?_;simp only[ZeD,List.getElem?_cons_succ,List.getElem?_cons_zero,List.cons_append,List.nil_append]
 repeat (go_big_quiet_step (fail))
 refine wpQuiet_nil ?_;refine Zfa 8 rfl (by kernel_rfl) rfl (fun W hW=>Zfo (f:=44) (args:= #[.int .i64 n]) (by simp[go_sem,execOp,Act.eval]) ?_);refine(Cq W (Af.trans hW)).mono ?_;rintro e W2 ⟨ao,cp,rfl,hI,Ga,Ai⟩;refine⟨.slice ao n cp,rfl,Ai,?_⟩;have B5:=hW.trans Ai;clear Ai hW;clear W;clear g0 g1 g2 g3 g4 q0 q1 q2 q3 q4;replace hr:=B5.get hr;obtain⟨q0,q1,q2,q3,q4⟩:=ZgE hr;have g0:=Zet q0;have g1:=Zet q1;have g2:=Zet q2;have g3:=Zet q3;have g4:=Zet q4;go_simp;refine ZeX 9 (f:=43) (args:= #[.agg #[.int .i64 r0,.int .i64 r1,.int .i64 r2,.int .i64 r3,.slice base n cap],.slice ao n cp]) (v:= .bool false) (by kernel_rfl) rfl (by kernel_rfl) rfl (fun W=>by simp[go_sem,execOp,Act.eval]) (fun W hW=>Bz W ao cp (Af.trans (B5.trans hW)) (hI.ext hW) Ga) ?_;go_simp;refine ZeB [10,11,12,13,14,15,16,17] (by kernel_rfl) (by kernel_rfl) ?_;simp only[ZeD,List.getElem?_cons_succ,List.getElem?_cons_zero,List.cons_append,List.nil_append]
 repeat (go_big_quiet_step (fail))
 refine wpQuiet_nil ?_;refine Zf6 (by kernel_rfl) (fun W hW=> ?_);have A7:=Af.trans (B5.trans hW);clear hr q0 q1 q2 q3 q4 g0 g1 g2 g3 g4;go_wp2_with (first|(go_at_call 22;refine(B9 _ A7).mono ?_;rintro e w3 ⟨rfl,Am⟩));go_ret;exact rfl
theorem Zki(r0 r1 r2 r3:Int)(base:Option Addr)(n cap:Nat)(b wh at9:Int)(w:World)
 (Dh:∀W,Ext w W->Calls prog 42 #[.agg #[.int .i64 r0,.int .i64 r1,.int .i64 r2,.int .i64 r3,.slice base n cap]] W fun e w'=>e= .returned (.bool true)/\Ext W w')
 (Cq:∀W,Ext w W->Calls prog 44 #[.int .i64 n] W fun e w'=>∃ao cp,e= .returned (.slice ao n cp)/\RawI w' ao (upL n)/\n<=cp/\Ext W w')
 (Bz:∀W ao cp,Ext w W->RawI W ao (upL n)->n<=cp->Calls prog 43 #[.agg #[.int .i64 r0,.int .i64 r1,.int .i64 r2,.int .i64 r3,.slice base n cap],.slice ao n cp] W fun e w'=>e= .returned (.bool true)/\Ext W w')
 (P8:((n:Int)==0)=true)
 (B9:∀W,Ext w W->Calls prog 22 #[] W fun e w'=>e= .returned (.bool true)/\Ext W w'):
 Calls prog 20 #[.agg #[.int .i64 r0,.int .i64 r1,.int .i64 r2,.int .i64 r3,.slice base n cap],.int .u8 b,.int .u8 wh,.int .u8 at9] w fun e w'=>e= .returned (.bool true):=by
 go_enter func20,ntmps20;go_wp2_with fail;have Af:=(Ext.rfl' w).alloc (.cells #[.int .i64 r0,.int .i64 r1,.int .i64 r2,.int .i64 r3,.slice base n cap] 70);have hr:(w.alloc (.cells #[.int .i64 r0,.int .i64 r1,.int .i64 r2,.int .i64 r3,.slice base n cap] 70)).heap[w.heap.size]? =some (.cells #[.int .i64 r0,.int .i64 r1,.int .i64 r2,.int .i64 r3,.slice base n cap] 70):=(Z3 _ _ _).trans (if_pos rfl);generalize World.alloc _ _=w1 at Af hr⊢;obtain⟨q0,q1,q2,q3,q4⟩:=ZgE hr;have g0:=Zet q0;have g1:=Zet q1;have g2:=Zet q2;have g3:=Zet q3;have g4:=Zet q4;refine ZeG 18 (by kernel_rfl) ?_;refine ZeB [0] (by kernel_rfl) (by kernel_rfl) ?_;simp only[ZeD,List.getElem?_cons_succ,List.getElem?_cons_zero,List.cons_append,List.nil_append]
 repeat (go_big_quiet_step (fail))
 refine wpQuiet_nil ?_;refine ZeX 1 (f:=42) (args:= #[.agg #[.int .i64 r0,.int .i64 r1,.int .i64 r2,.int .i64 r3,.slice base n cap]]) (v:= .bool true) (by kernel_rfl) rfl (by kernel_rfl) rfl (fun W=>by simp[go_sem,execOp,Act.eval]) (fun W hW=>Dh W (Af.trans hW)) ?_;go_simp;refine ZeB [2,3,4,5,6,7] (by kernel_rfl) (by kernel_rfl) ?_;simp only[ZeD,List.getElem?_cons_succ,List.getElem?_cons_zero,List.cons_append,List.nil_append]
 repeat (go_big_quiet_step (fail))
 refine wpQuiet_nil ?_;refine Zfa 8 rfl (by kernel_rfl) rfl (fun W hW=>Zfo (f:=44) (args:= #[.int .i64 n]) (by simp[go_sem,execOp,Act.eval]) ?_);refine(Cq W (Af.trans hW)).mono ?_;rintro e W2 ⟨ao,cp,rfl,hI,Ga,Ai⟩;refine⟨.slice ao n cp,rfl,Ai,?_⟩;have B5:=hW.trans Ai;clear Ai hW;clear W;clear g0 g1 g2 g3 g4 q0 q1 q2 q3 q4;replace hr:=B5.get hr;obtain⟨q0,q1,q2,q3,q4⟩:=ZgE hr;have g0:=Zet q0;have g1:=Zet q1;have g2:=Zet q2;have g3:=Zet q3;have g4:=Zet q4;go_simp;refine ZeX 9 (f:=43) (args:= #[.agg #[.int .i64 r0,.int .i64 r1,.int .i64 r2,.int .i64 r3,.slice base n cap],.slice ao n cp]) (v:= .bool true) (by kernel_rfl) rfl (by kernel_rfl) rfl (fun W=>by simp[go_sem,execOp,Act.eval]) (fun W hW=>Bz W ao cp (Af.trans (B5.trans hW)) (hI.ext hW) Ga) ?_;go_simp;refine ZeB [10,11,12,13,14,15,16,17] (by kernel_rfl) (by kernel_rfl) ?_;simp only[ZeD,List.getElem?_cons_succ,List.getElem?_cons_zero,List.cons_append,List.nil_append]
 repeat (go_big_quiet_step (fail))
 refine wpQuiet_nil ?_;refine Zf6 (by kernel_rfl) (fun W hW=> ?_);have A7:=Af.trans (B5.trans hW);clear hr q0 q1 q2 q3 q4 g0 g1 g2 g3 g4;go_wp2_with (first|(go_at_call 22;refine(B9 _ A7).mono ?_;rintro e w3 ⟨rfl,Am⟩));go_ret;exact rfl
theorem OwnS.ty{base:Nat}{w:World}{v:Value}{S:List Rs}(h:OwnS base w v S)(h0:0<S.length):∃g cap,v= .slice (some ⟨g,0,none⟩) S.length cap/\RawS w (some ⟨g,0,none⟩) S/\∃cs,w.heap[g]? =some (.cells cs 80):=by
 obtain⟨g,cap,e,_,_,hr,_⟩:=h.form h0;rcases h.2 with⟨e2,h2⟩|⟨g2,cap2,cur,e2,_,hg,_⟩
 ·rw[e] at e2;cases e2
 ·rw[e] at e2;injection e2 with e3;injection e3 with e4;injection e4 with e5;subst e5;exact⟨g,cap,e,hr,_,hg⟩
def ZS(S:List Rs)(b i:Nat):List Rs:=(List.range i).filterMap fun j=>S[(j+b) % S.length]?
theorem Zk5{S:List Rs}{b i:Nat}{s:Rs}(h:S[(i+b) % S.length]? =some s):ZS S b (i+1)=ZS S b i++[s]:=by
 rw[ZS,List.range_succ,List.filterMap_append,ZS];congr 1;exact List.filterMap_cons_some (f:=fun(j:Nat)=>S[(j+b) % S.length]?) h
theorem Zk3{S:List Rs}(h0:0<S.length)(b:Nat):∀i,(ZS S b i).length=i
 |0=>rfl
 |i+1=>by
  obtain⟨s,hs⟩:∃s,S[(i+b) % S.length]? =some s:=⟨_,List.getElem?_eq_getElem (Nat.mod_lt _ h0)⟩;rw[Zk5 hs,List.length_append,Zk3 h0 b i];rfl
theorem Zka(r0 r1 r2 r3:Int)(base:Option Addr)(n cap:Nat)(b wh at9:Int)(w:World)
 (Dh:∀W,Ext w W->Calls prog 42 #[.agg #[.int .i64 r0,.int .i64 r1,.int .i64 r2,.int .i64 r3,.slice base n cap]] W fun e w'=>e= .returned (.bool true)/\Ext W w')
 (Cq:∀W,Ext w W->Calls prog 44 #[.int .i64 n] W fun e w'=>∃ao cp,e= .returned (.slice ao n cp)/\RawI w' ao (upL n)/\n<=cp/\Ext W w')
 (Bz:∀W ao cp,Ext w W->RawI W ao (upL n)->n<=cp->Calls prog 43 #[.agg #[.int .i64 r0,.int .i64 r1,.int .i64 r2,.int .i64 r3,.slice base n cap],.slice ao n cp] W fun e w'=>e= .returned (.bool true)/\Ext W w')
 (P8:((n:Int)==0)=false)(Ca:n<=8)(Vu:1<=n)(S:List Rs)(A1:Hid (S.length=n))(hS:Hid (RawS w base S))(B:Nat)(hB:b=(B:Int))(hB8:B<256)(d:Nat)(Va:d<=90)(hd:Int.tmod at9 91=(d:Int))(ha8:0<=at9/\at9<256)
 (V U:Nat->Int×Int)(L:List Int)(F:List Rs)(ln m k:Nat)(U4:Hid (n=m+1))(hk:k<n)(Jz:Int.tmod wh (n:Int)=(k:Int))(hw8:0<=wh/\wh<256)(Ts:Hid (L.length=ln))(hln8:ln<=8)(K2:Hid (F.length=m))
 (Q3:∀e:Nat,e<=90->∀W,Ext w W->Calls prog 45 #[.agg #[.int .i64 r0,.int .i64 r1,.int .i64 r2,.int .i64 r3,.slice base n cap],.int .i64 e] W fun r w'=>r= .returned (.tuple #[.agg #[.int .i64 (V e).1,.int .i64 (V e).2],.int .i64 0])/\Ext W w')
 (Ox:∀mb mc W,Ext w W->RawS W mb (ZS S B n)->Calls prog 45 #[.agg #[.int .i64 r0,.int .i64 r1,.int .i64 r2,.int .i64 r3,.slice mb n mc],.int .i64 d] W fun r w'=>r= .returned (.tuple #[.agg #[.int .i64 (V d).1,.int .i64 (V d).2],.int .i64 0])/\Ext W w')
 (h81:∀W,Ext w W->Calls prog 81 #[.agg #[.int .i64 r0,.int .i64 r1,.int .i64 r2,.int .i64 r3,.slice base n cap]] W fun r w'=>∃bl cl,r= .returned (.tuple #[.slice bl ln cl,.int .i64 0])/\RawI w' bl L/\Ext W w')
 (h40:∀bl cl W,RawI W bl L->Calls prog 40 #[.slice bl ln cl,.int .i64 n] W fun r w'=>r= .returned (.int .i64 0)/\Ext W w')
 (h1:n=1->ln=1)
 (h83:∀bl cl W,n<=cl->RawI W bl (upL n)->Calls prog 83 #[.slice bl n cl,.int .i64 k] W fun r w'=>∃b2 c2,r= .returned (.slice b2 m c2)/\RawI w' b2 ((upL n).eraseIdx k)/\Ext W w')
 (h72:∀bl cl W,Ext w W->RawI W bl ((upL n).eraseIdx k)->Calls prog 72 #[.agg #[.int .i64 r0,.int .i64 r1,.int .i64 r2,.int .i64 r3,.slice base n cap],.slice bl m cl] W fun r w'=>∃v,r= .returned (.agg #[.int .i64 r0,.int .i64 r1,.int .i64 r2,.int .i64 r3,v])/\OwnS W.heap.size w' v F/\Ext W w')
 (Tv:1<=m->∀e:Nat,e<=90->∀mb mc W,Ext w W->RawS W mb F->Calls prog 45 #[.agg #[.int .i64 r0,.int .i64 r1,.int .i64 r2,.int .i64 r3,.slice mb m mc],.int .i64 e] W fun r w'=>r= .returned (.tuple #[.agg #[.int .i64 (U e).1,.int .i64 (U e).2],.int .i64 0])/\Ext W w')
 (Tw:Hid (1<=m->(decide ((k:Int)∈L)=true↔∃e:Nat,e<91/\V e≠U e)))
 (B9:∀W,Ext w W->Calls prog 22 #[] W fun e w'=>e= .returned (.bool true)/\Ext W w'):
 Calls prog 20 #[.agg #[.int .i64 r0,.int .i64 r1,.int .i64 r2,.int .i64 r3,.slice base n cap],.int .u8 b,.int .u8 wh,.int .u8 at9] w fun e w'=>e= .returned (.bool true):=by
 go_enter func20,ntmps20;go_wp2_with fail;have Af:=(Ext.rfl' w).alloc (.cells #[.int .i64 r0,.int .i64 r1,.int .i64 r2,.int .i64 r3,.slice base n cap] 70);have hr:(w.alloc (.cells #[.int .i64 r0,.int .i64 r1,.int .i64 r2,.int .i64 r3,.slice base n cap] 70)).heap[w.heap.size]? =some (.cells #[.int .i64 r0,.int .i64 r1,.int .i64 r2,.int .i64 r3,.slice base n cap] 70):=(Z3 _ _ _).trans (if_pos rfl);generalize World.alloc _ _=w1 at Af hr⊢;obtain⟨q0,q1,q2,q3,q4⟩:=ZgE hr;have g0:=Zet q0;have g1:=Zet q1;have g2:=Zet q2;have g3:=Zet q3;have g4:=Zet q4;refine ZeG 18 (by kernel_rfl) ?_;refine ZeB [0] (by kernel_rfl) (by kernel_rfl) ?_;simp only[ZeD,List.getElem?_cons_succ,List.getElem?_cons_zero,List.cons_append,List.nil_append]
 repeat (go_big_quiet_step (fail))
 refine wpQuiet_nil ?_;refine ZeX 1 (f:=42) (args:= #[.agg #[.int .i64 r0,.int .i64 r1,.int .i64 r2,.int .i64 r3,.slice base n cap]]) (v:= .bool true) (by kernel_rfl) rfl (by kernel_rfl) rfl (fun W=>by simp[go_sem,execOp,Act.eval]) (fun W hW=>Dh W (Af.trans hW)) ?_;go_simp;refine ZeB [2,3,4,5,6,7] (by kernel_rfl) (by kernel_rfl) ?_;simp only[ZeD,List.getElem?_cons_succ,List.getElem?_cons_zero,List.cons_append,List.nil_append]
 repeat (go_big_quiet_step (fail))
 refine wpQuiet_nil ?_;refine Zfa 8 rfl (by kernel_rfl) rfl (fun W hW=>Zfo (f:=44) (args:= #[.int .i64 n]) (by simp[go_sem,execOp,Act.eval]) ?_);refine(Cq W (Af.trans hW)).mono ?_;rintro e W2 ⟨ao,cp,rfl,hI,Ga,Ai⟩;refine⟨.slice ao n cp,rfl,Ai,?_⟩;have B5:=hW.trans Ai;clear Ai hW;clear W;clear g0 g1 g2 g3 g4 q0 q1 q2 q3 q4;replace hr:=B5.get hr;obtain⟨q0,q1,q2,q3,q4⟩:=ZgE hr;have g0:=Zet q0;have g1:=Zet q1;have g2:=Zet q2;have g3:=Zet q3;have g4:=Zet q4;go_simp;refine ZeX 9 (f:=43) (args:= #[.agg #[.int .i64 r0,.int .i64 r1,.int .i64 r2,.int .i64 r3,.slice base n cap],.slice ao n cp]) (v:= .bool true) (by kernel_rfl) rfl (by kernel_rfl) rfl (fun W=>by simp[go_sem,execOp,Act.eval]) (fun W hW=>Bz W ao cp (Af.trans (B5.trans hW)) (hI.ext hW) Ga) ?_;go_simp;refine ZeB [10,11,12,13,14,15,16,17] (by kernel_rfl) (by kernel_rfl) ?_;simp only[ZeD,List.getElem?_cons_succ,List.getElem?_cons_zero,List.cons_append,List.nil_append]
 repeat (go_big_quiet_step (fail))
 refine wpQuiet_nil ?_;refine Zf6 (by kernel_rfl) (fun W hW=> ?_);have A7:=Af.trans (B5.trans hW);replace hr:=hW.get hr;clear Af B5 hW hI Ga Dh Bz q0 q1 q2 q3 q4 g0 g1 g2 g3 g4;obtain⟨q0,q1,q2,q3,q4⟩:=ZgE hr;go_wp2_with fail;have D0:=((Ext.rfl' W).alloc (.cells #[.int .i64 r0,.int .i64 r1,.int .i64 r2,.int .i64 r3,.slice none 0 0] 70)).get hr;have Cg:=(Z3 W (.cells #[.int .i64 r0,.int .i64 r1,.int .i64 r2,.int .i64 r3,.slice none 0 0] 70) W.heap.size).trans (if_pos rfl);have Ai:=A7.alloc (.cells #[.int .i64 r0,.int .i64 r1,.int .i64 r2,.int .i64 r3,.slice none 0 0] 70);have hob0:w.heap.size<W.heap.size:=Z5 hr;clear hr A7 q0 q1 q2 q3 q4;obtain⟨ob,Ee⟩:∃ob,ob=W.heap.size:=⟨_,rfl⟩;rw[<-Ee] at Cg hob0;rw[<-Ee];clear Ee;generalize World.alloc W _=W5 at D0 Cg Ai⊢;clear W;have Cw:=Z5 Cg;obtain⟨N,hN⟩:∃N,N=W5.heap.size:=⟨_,rfl⟩;have hn0N:¬N<=w.heap.size:=by omega
 have hn2N:¬N<=ob:=by omega
 have hNN:N<=W5.heap.size:=by omega
 go_loopw [12] (fun v12 wr=>∃(i:Nat)(u:Value),i<=n/\v12= .int .i64 i/\Ext w wr/\N<=wr.heap.size/\wr.heap[w.heap.size]? =some (.cells #[.int .i64 r0,.int .i64 r1,.int .i64 r2,.int .i64 r3,.slice base n cap] 70)/\wr.heap[ob]? =some (.cells #[.int .i64 r0,.int .i64 r1,.int .i64 r2,.int .i64 r3,u] 70)/\OwnS N wr u (ZS S B i)) (fun v12 _=>n - (intOf v12).toNat)
 case atStart=>exact⟨0,_,Nat.zero_le _,rfl,Ai,hNN,D0,Cg,World.ownsRow_nil _ _ _ _⟩
 case round=>
  clear Ai D0 Cg hN hNN Cw;obtain⟨i,u,hi,rfl,hE,hNw,Ax,A9,hO⟩:=hrel;by_cases An:i=n
  ·replace An:=An.symm;subst An;obtain⟨mb,mc,rfl,Dc,_⟩:=hO.raw;rw[Zk3 (by have:=A1.out;omega)] at A9;clear hO;obtain⟨q0,q1,q2,q3,q4⟩:=ZgE Ax;obtain⟨x0,x1,x2,x3,x4⟩:=ZgE A9;by_cases Li:n=1
   ·have e1:((n:Int)==1)=true:=(by simp[Li]);have e2:((ln:Int)==1)=true:=(by simp[h1 Li]);clear Li h1
    go_wp2_with (first
     |(go_at_call 45;(with_reducible refine(Q3 d Va _ hE).mono ?_);rintro e w6 ⟨rfl,hF⟩
       have Ej:=(Z3 w6 (.cells #[.int .i64 (V d).1,.int .i64 (V d).2] 48) w6.heap.size).trans (if_pos rfl);replace hF:=hF.alloc (.cells #[.int .i64 (V d).1,.int .i64 (V d).2] 48);replace Dc:=Dc.ext hF;replace hE:=hE.trans hF;replace Ax:=hF.get Ax;replace A9:=hF.get A9;clear q0 q1 q2 q3 q4 x0 x1 x2 x3 x4;obtain⟨q0,q1,q2,q3,q4⟩:=ZgE Ax;obtain⟨x0,x1,x2,x3,x4⟩:=ZgE A9)
     |(go_at_call 45;(with_reducible refine(Ox mb mc _ hE Dc).mono ?_);rintro e w7 ⟨rfl,hF⟩
       have Lj:=(Z3 w7 (.cells #[.int .i64 (V d).1,.int .i64 (V d).2] 48) w7.heap.size).trans (if_pos rfl);replace hF:=hF.alloc (.cells #[.int .i64 (V d).1,.int .i64 (V d).2] 48);replace Ej:=hF.get Ej;replace hE:=hE.trans hF;replace Ax:=hF.get Ax;replace A9:=hF.get A9;clear q0 q1 q2 q3 q4 x0 x1 x2 x3 x4;obtain⟨q0,q1,q2,q3,q4⟩:=ZgE Ax;obtain⟨x0,x1,x2,x3,x4⟩:=ZgE A9)
     |(go_at_call 81;refine(h81 _ hE).mono ?_;rintro e w8 ⟨bl,cl,rfl,hL,hF⟩
       replace Ej:=hF.get Ej;replace Lj:=hF.get Lj;replace hE:=hE.trans hF;replace Ax:=hF.get Ax;replace A9:=hF.get A9;clear q0 q1 q2 q3 q4 x0 x1 x2 x3 x4;obtain⟨q0,q1,q2,q3,q4⟩:=ZgE Ax;obtain⟨x0,x1,x2,x3,x4⟩:=ZgE A9;have y:=Zc Ej;have y0:=y.1;have y1:=y.2.1;have z:=Zc Lj;have z0:=z.1;have z1:=z.2.1;clear y z)
     |(go_at_call 40;refine(h40 _ _ _ hL).mono ?_;rintro e w9 ⟨rfl,hF⟩
       replace hL:=hL.ext hF;replace hE:=hE.trans hF;replace Ax:=hF.get Ax;replace A9:=hF.get A9;clear q0 q1 q2 q3 q4 x0 x1 x2 x3 x4;obtain⟨q0,q1,q2,q3,q4⟩:=ZgE Ax;obtain⟨x0,x1,x2,x3,x4⟩:=ZgE A9;clear y0 y1 z0 z1 Ej Lj)
     |(go_at_call 22;refine(B9 _ hE).mono ?_;rintro e w10 ⟨rfl,hF⟩))
    go_ret;exact rfl
   ·have e1:((n:Int)==1)=false:=beq_eq_false_iff_ne.2 (by omega);have D5:1<=m:=(by have:=U4.out;omega);have H7:=Tv D5;have Mm:Hid (decide ((k:Int)∈L)=true↔∃e:Nat,e<91/\V e≠U e):=Tw.out D5;clear Li h1 Tv Tw
    go_wp2_with (first
     |(go_at_call 45;(with_reducible refine(Q3 d Va _ hE).mono ?_);rintro e w6 ⟨rfl,hF⟩
       have Ej:=(Z3 w6 (.cells #[.int .i64 (V d).1,.int .i64 (V d).2] 48) w6.heap.size).trans (if_pos rfl);replace hF:=hF.alloc (.cells #[.int .i64 (V d).1,.int .i64 (V d).2] 48);replace Dc:=Dc.ext hF;replace hE:=hE.trans hF;replace Ax:=hF.get Ax;replace A9:=hF.get A9;clear q0 q1 q2 q3 q4 x0 x1 x2 x3 x4;obtain⟨q0,q1,q2,q3,q4⟩:=ZgE Ax;obtain⟨x0,x1,x2,x3,x4⟩:=ZgE A9)
     |(go_at_call 45;(with_reducible refine(Ox mb mc _ hE Dc).mono ?_);rintro e w7 ⟨rfl,hF⟩
       have Lj:=(Z3 w7 (.cells #[.int .i64 (V d).1,.int .i64 (V d).2] 48) w7.heap.size).trans (if_pos rfl);replace hF:=hF.alloc (.cells #[.int .i64 (V d).1,.int .i64 (V d).2] 48);replace Ej:=hF.get Ej;replace hE:=hE.trans hF;replace Ax:=hF.get Ax;replace A9:=hF.get A9;clear q0 q1 q2 q3 q4 x0 x1 x2 x3 x4;obtain⟨q0,q1,q2,q3,q4⟩:=ZgE Ax;obtain⟨x0,x1,x2,x3,x4⟩:=ZgE A9)
     |(go_at_call 81;refine(h81 _ hE).mono ?_;rintro e w8 ⟨bl,cl,rfl,hL,hF⟩
       replace Ej:=hF.get Ej;replace Lj:=hF.get Lj;replace hE:=hE.trans hF;replace Ax:=hF.get Ax;replace A9:=hF.get A9;clear q0 q1 q2 q3 q4 x0 x1 x2 x3 x4;obtain⟨q0,q1,q2,q3,q4⟩:=ZgE Ax;obtain⟨x0,x1,x2,x3,x4⟩:=ZgE A9;have y:=Zc Ej;have y0:=y.1;have y1:=y.2.1;have z:=Zc Lj;have z0:=z.1;have z1:=z.2.1;clear y z)
     |(go_at_call 40;refine(h40 _ _ _ hL).mono ?_;rintro e w9 ⟨rfl,hF⟩
       replace hL:=hL.ext hF;replace hE:=hE.trans hF;replace Ax:=hF.get Ax;replace A9:=hF.get A9;clear q0 q1 q2 q3 q4 x0 x1 x2 x3 x4;obtain⟨q0,q1,q2,q3,q4⟩:=ZgE Ax;obtain⟨x0,x1,x2,x3,x4⟩:=ZgE A9;clear y0 y1 z0 z1 Ej Lj))
    clear Ox h40 h81 x0 x1 x2 x3 x4 A9 Dc;have g0:=Zet q0;have g1:=Zet q1;have g2:=Zet q2;have g3:=Zet q3;have g4:=Zet q4;refine Zfn 7 6 20 [0,1,2,3,4,5] (.cells #[.int .i64 0,.int .i64 0,.int .i64 0,.int .i64 0,.slice none 0 0] 70) (by kernel_rfl) rfl (by kernel_rfl) rfl rfl (fun a W=>by simp[go_sem,execOp,Act.eval]) ?_;refine Zfj [0,1,3] (by kernel_rfl) rfl rfl (by kernel_rfl) ?_;simp only[ZeD,List.getElem?_cons_succ,List.getElem?_cons_zero,List.cons_append,List.nil_append]
    repeat (go_big_quiet_step (fail))
    refine wpQuiet_nil ?_;refine Zfk 2 rfl (by kernel_rfl) rfl (fun W hW=>Zfo (f:=44) (args:= #[.int .i64 n]) (by simp[go_sem,execOp,Act.eval]) ?_);refine(Cq W (hE.trans hW)).mono ?_;rintro e W2 ⟨a1,c1,rfl,Bu,De,Gd⟩;refine⟨.slice a1 n c1,rfl,Gd,?_⟩;have hX1:=hW.trans Gd;clear Gd hW;obtain⟨Wa,rfl⟩:∃z,z=W:=⟨_,rfl⟩;go_simp;refine Zfk 4 rfl (by kernel_rfl) rfl (fun W hW=>Zfo (f:=83) (args:= #[.slice a1 n c1,.int .i64 k]) (by simp[go_sem,execOp,Act.eval]) ?_);refine(h83 a1 c1 W De (Bu.ext hW)).mono ?_;rintro e W3 ⟨a2,c2,rfl,Ip,A0⟩;refine⟨.slice a2 m c2,rfl,A0,?_⟩;have hX2:=hX1.trans (hW.trans A0);clear A0 hW hX1 Bu;obtain⟨Wb,rfl⟩:∃z,z=W:=⟨_,rfl⟩;go_simp;refine Zfk 5 rfl (by kernel_rfl) rfl (fun W hW=>Zfo (f:=72) (args:= #[.agg #[.int .i64 r0,.int .i64 r1,.int .i64 r2,.int .i64 r3,.slice base n cap],.slice a2 m c2]) (by simp[go_sem,execOp,Act.eval]) ?_);refine(h72 a2 c2 W (hE.trans (hX2.trans hW)) (Ip.ext hW)).mono ?_;rintro e W4 ⟨v4,rfl,Mk,P4⟩;obtain⟨fg,fc,rfl,Vb,fcs,O5⟩:=Mk.ty (by rw[K2.out];exact D5);rw[K2.out];refine⟨.agg #[.int .i64 r0,.int .i64 r1,.int .i64 r2,.int .i64 r3,.slice (some ⟨fg,0,none⟩) m fc],rfl,P4,?_⟩;have M5:=hX2.trans (hW.trans P4);clear P4 hW hX2 Ip Mk
    obtain⟨Wc,rfl⟩:∃z,z=W:=⟨_,rfl⟩;go_simp;refine Zfq (by kernel_rfl) (fun W hW b hA C2 Ad=> ?_);obtain⟨bx,rfl⟩:∃bx,bx=b:=⟨_,rfl⟩;have Am:=hW;clear hW;go_simp;refine Zfp 1 (by kernel_rfl) (fun W hW=> ?_);simp only[List.drop_succ_cons,List.drop_zero];replace Ad:=hW.get Ad;have hF:=(M5.trans Am).trans hW;replace Vb:=Vb.ext (Am.trans hW);have G6:=(Am.trans hW).get O5;have C6:w9.heap.size<=bx:=hA.1.1.1
    have A8:fg≠bx:=fun e=>by
     rw[e] at G6;rw[Ad] at G6;injection G6 with G6;injection G6 with h1 h2 h3;exact absurd h2 (by decide)
    have hX:=ZiD Ad (.int .i64 r0) (.int .i64 r1) (.int .i64 r2) (.int .i64 r3) (.slice (some ⟨fg,0,none⟩) m fc);have I9:=ZiE hF C6 (.int .i64 r0) (.int .i64 r1) (.int .i64 r2) (.int .i64 r3) (.slice (some ⟨fg,0,none⟩) m fc);have Vd:=Ziw Vb (ZiG W (b:=bx) (show fg≠bx from A8) (.int .i64 r0) (.int .i64 r1) (.int .i64 r2) (.int .i64 r3) (.slice (some ⟨fg,0,none⟩) m fc));have Bc:=hE.trans I9;have Ia:=I9.get Ax;have Ve:=hL.ext I9;obtain⟨k0,k1,k2,k3,k4⟩:=ZgE Ad;obtain⟨f0,f1,f2,f3,f4⟩:=thaw5 Ad;clear hE Ax hL M5 Am hF hW hA C2 Vb O5 G6 I9;unfold ZjW at hX Vd Bc Ia Ve;go_wp2_with fail;generalize World.setCell _ _ _=Y at hX Vd Bc Ia Ve⊢;clear k0 k1 k2 k3 k4 f0 f1 f2 f3 f4;refine Zfm ?_;go_wp2_with fail;go_loopw [21,22] (fun v21 v22 wr=>∃(e:Nat)(pb:Bool),e<=91/\v21= .bool pb/\v22= .int .i64 e/\Ext w wr/\wr.heap[w.heap.size]? =some (.cells #[.int .i64 r0,.int .i64 r1,.int .i64 r2,.int .i64 r3,.slice base n cap] 70)/\wr.heap[bx]? =some (.cells #[.int .i64 r0,.int .i64 r1,.int .i64 r2,.int .i64 r3,.slice (some ⟨fg,0,none⟩) m fc] 70)/\RawS wr (some ⟨fg,0,none⟩) F/\RawI wr bl L/\Hid (pb=true↔∃i:Nat,i<e/\V i≠U i)) (fun _ v22 _=>91 - (intOf v22).toNat)
    case atStart=>exact⟨0,false,by omega,rfl,rfl,Bc,Ia,hX,Vd,Ve,⟨fun h=>(by cases h),fun⟨i,hi,_⟩=>by omega⟩⟩
    case round=>
     clear Bc Ia hX Vd Ve;obtain⟨e,pb,he,rfl,rfl,hE,Ax,A9,Dc,hL,Oy⟩:=hrel;by_cases he91:e=91
     ·subst he91;obtain rfl:pb=decide ((k:Int)∈L):=Bool.eq_iff_iff.2 (Oy.out.trans Mm.out.symm);clear Oy Mm Q3 H7 Dc A9 Ax;have hh:=fun W (hI:RawI W bl L)=>Zhj bl ln cl L (k:Int) W Ts.out (by omega) hI
      generalize decide ((k:Int)∈L)=db at hh⊢;cases db
      all_goals
       go_wp2_with (first
        |(go_at_call 39;refine(hh _ hL).mono ?_;rintro r w6 ⟨rfl,hF⟩;replace hE:=hE.trans hF)
        |(go_at_call 22;refine(B9 _ hE).mono ?_;rintro r w7 ⟨rfl,hF⟩))
       go_ret;exact rfl
     ·have Hu:e<=90:=(by omega);have Gc:(e:Int)<=90:=(by omega);obtain⟨q0,q1,q2,q3,q4⟩:=ZgE Ax;obtain⟨x0,x1,x2,x3,x4⟩:=ZgE A9;cases pb
      ·by_cases Mo:V e=U e
       ·have Hk:Hid (false=true↔∃i:Nat,i<e+1/\V i≠U i):=⟨fun h=>(by cases h),fun⟨i,hi,hn⟩=>by
         by_cases hie:i=e
         ·subst hie;exact absurd Mo hn
         ·exact Oy.out.2 ⟨i,by omega,hn⟩⟩
        have hq:(!(V e).1==(U e).1|| !(V e).2==(U e).2)=false:=(by rw[Mo];simp);have Nc:((V e).1==(U e).1)=true:=(by rw[Mo];simp);have Uu:((V e).2==(U e).2)=true:=(by rw[Mo];simp);clear Oy Mo
        go_wp2_with (first
         |(go_at_call 45;(with_reducible refine(Q3 e Hu _ hE).mono ?_);rintro r w6 ⟨rfl,hF⟩
           have hv:=(Z3 w6 (.cells #[.int .i64 (V e).1,.int .i64 (V e).2] 48) w6.heap.size).trans (if_pos rfl);replace hF:=hF.alloc (.cells #[.int .i64 (V e).1,.int .i64 (V e).2] 48);replace hE:=hE.trans hF;replace Ax:=hF.get Ax;replace A9:=hF.get A9;replace Dc:=Dc.ext hF;replace hL:=hL.ext hF;clear q0 q1 q2 q3 q4 x0 x1 x2 x3 x4;obtain⟨q0,q1,q2,q3,q4⟩:=ZgE Ax;obtain⟨x0,x1,x2,x3,x4⟩:=ZgE A9)
         |(go_at_call 45;(with_reducible refine(H7 e Hu _ _ _ hE Dc).mono ?_);rintro r w7 ⟨rfl,hF⟩
           have hu:=(Z3 w7 (.cells #[.int .i64 (U e).1,.int .i64 (U e).2] 48) w7.heap.size).trans (if_pos rfl);replace hF:=hF.alloc (.cells #[.int .i64 (U e).1,.int .i64 (U e).2] 48);replace hv:=hF.get hv;replace hE:=hE.trans hF;replace Ax:=hF.get Ax;replace A9:=hF.get A9;replace Dc:=Dc.ext hF;replace hL:=hL.ext hF;clear q0 q1 q2 q3 q4 x0 x1 x2 x3 x4;obtain⟨q0,q1,q2,q3,q4⟩:=ZgE Ax;obtain⟨x0,x1,x2,x3,x4⟩:=ZgE A9;have y:=Zc hv;have y0:=y.1;have y1:=y.2.1;have z:=Zc hu;have z0:=z.1;have z1:=z.2.1;clear y z))
        exact⟨⟨e+1,_,by omega,rfl,by push_cast;rfl,hE,Ax,A9,Dc,hL,(by first|exact Hk|exact⟨fun _=>Hk.out.1 trivial,fun _=>rfl⟩)⟩,by simp[intOf];omega⟩
       ·have Hk:Hid (true=true↔∃i:Nat,i<e+1/\V i≠U i):=⟨fun _=>⟨e,by omega,Mo⟩,fun _=>rfl⟩;have hq:(!(V e).1==(U e).1|| !(V e).2==(U e).2)=true:=by
         rw[Bool.or_eq_true];by_cases h1:(V e).1=(U e).1
         ·right
          have h2:(V e).2≠(U e).2:=fun h2=>Mo (Prod.ext h1 h2)
          simpa using h2
         ·left;simpa using h1
        clear Oy Mo
        go_wp2_with (first
         |(go_at_call 45;(with_reducible refine(Q3 e Hu _ hE).mono ?_);rintro r w6 ⟨rfl,hF⟩
           have hv:=(Z3 w6 (.cells #[.int .i64 (V e).1,.int .i64 (V e).2] 48) w6.heap.size).trans (if_pos rfl);replace hF:=hF.alloc (.cells #[.int .i64 (V e).1,.int .i64 (V e).2] 48);replace hE:=hE.trans hF;replace Ax:=hF.get Ax;replace A9:=hF.get A9;replace Dc:=Dc.ext hF;replace hL:=hL.ext hF;clear q0 q1 q2 q3 q4 x0 x1 x2 x3 x4;obtain⟨q0,q1,q2,q3,q4⟩:=ZgE Ax;obtain⟨x0,x1,x2,x3,x4⟩:=ZgE A9)
         |(go_at_call 45;(with_reducible refine(H7 e Hu _ _ _ hE Dc).mono ?_);rintro r w7 ⟨rfl,hF⟩
           have hu:=(Z3 w7 (.cells #[.int .i64 (U e).1,.int .i64 (U e).2] 48) w7.heap.size).trans (if_pos rfl);replace hF:=hF.alloc (.cells #[.int .i64 (U e).1,.int .i64 (U e).2] 48);replace hv:=hF.get hv;replace hE:=hE.trans hF;replace Ax:=hF.get Ax;replace A9:=hF.get A9;replace Dc:=Dc.ext hF;replace hL:=hL.ext hF;clear q0 q1 q2 q3 q4 x0 x1 x2 x3 x4;obtain⟨q0,q1,q2,q3,q4⟩:=ZgE Ax;obtain⟨x0,x1,x2,x3,x4⟩:=ZgE A9;have y:=Zc hv;have y0:=y.1;have y1:=y.2.1;have z:=Zc hu;have z0:=z.1;have z1:=z.2.1;clear y z))
        exact⟨⟨e+1,_,by omega,rfl,by push_cast;rfl,hE,Ax,A9,Dc,hL,(by first|exact Hk|exact⟨fun _=>Hk.out.1 trivial,fun _=>rfl⟩)⟩,by simp[intOf];omega⟩
      ·have Hk:Hid (true=true↔∃i:Nat,i<e+1/\V i≠U i):=⟨fun _=>by
        obtain⟨i,hi,hn⟩:=Oy.out.1 rfl;exact⟨i,by omega,hn⟩,fun _=>rfl⟩
       clear Oy
       go_wp2_with (first
        |(go_at_call 45;(with_reducible refine(Q3 e Hu _ hE).mono ?_);rintro r w6 ⟨rfl,hF⟩
          have hv:=(Z3 w6 (.cells #[.int .i64 (V e).1,.int .i64 (V e).2] 48) w6.heap.size).trans (if_pos rfl);replace hF:=hF.alloc (.cells #[.int .i64 (V e).1,.int .i64 (V e).2] 48);replace hE:=hE.trans hF;replace Ax:=hF.get Ax;replace A9:=hF.get A9;replace Dc:=Dc.ext hF;replace hL:=hL.ext hF;clear q0 q1 q2 q3 q4 x0 x1 x2 x3 x4;obtain⟨q0,q1,q2,q3,q4⟩:=ZgE Ax;obtain⟨x0,x1,x2,x3,x4⟩:=ZgE A9)
        |(go_at_call 45;(with_reducible refine(H7 e Hu _ _ _ hE Dc).mono ?_);rintro r w7 ⟨rfl,hF⟩
          have hu:=(Z3 w7 (.cells #[.int .i64 (U e).1,.int .i64 (U e).2] 48) w7.heap.size).trans (if_pos rfl);replace hF:=hF.alloc (.cells #[.int .i64 (U e).1,.int .i64 (U e).2] 48);replace hv:=hF.get hv;replace hE:=hE.trans hF;replace Ax:=hF.get Ax;replace A9:=hF.get A9;replace Dc:=Dc.ext hF;replace hL:=hL.ext hF;clear q0 q1 q2 q3 q4 x0 x1 x2 x3 x4;obtain⟨q0,q1,q2,q3,q4⟩:=ZgE Ax;obtain⟨x0,x1,x2,x3,x4⟩:=ZgE A9;have y:=Zc hv;have y0:=y.1;have y1:=y.2.1;have z:=Zc hu;have z0:=z.1;have z1:=z.2.1;clear y z))
       exact⟨⟨e+1,_,by omega,rfl,by push_cast;rfl,hE,Ax,A9,Dc,hL,(by first|exact Hk|exact⟨fun _=>Hk.out.1 trivial,fun _=>rfl⟩)⟩,by simp[intOf];omega⟩
  ·have A3:i<n:=by omega
   have Ce:(i:Int)<(n:Int):=by omega
   have hJ:(i+B) % S.length<S.length:=Nat.mod_lt _ (by have:=A1.out;omega);obtain⟨s,hs⟩:∃s,S[(i+B) % S.length]? =some s:=⟨_,List.getElem?_eq_getElem hJ⟩;have HN:Hid (ZS S B (i+1)=ZS S B i++[s]):=Zk5 hs;have S5:(ZS S B i).length<=8:=by rw[Zk3 (by have:=A1.out;omega)];omega
   obtain⟨bs,os,rfl,Ex,shx⟩:=hS.out _ s hs;rw[A1.out] at hJ shx;obtain⟨J,hJe⟩:∃J,J=(i+B) % n:=⟨_,rfl⟩;rw[<-hJe] at hJ shx;have hm9:Int.tmod ((i:Int)+(B:Int)) (n:Int)=(J:Int):=by rw[hJe,Int.tmod_eq_emod_of_nonneg (by omega)];push_cast;rfl
   have Dw:¬N<=bs:=by omega
   clear hs hJe;go_wp2_with fail;refine Zjj (ExtX fun q=>N<=q) 15 (by kernel_rfl) ?_;have hD:=(Ext.rfl' wr).drew;have Fj:=hE.trans hD;have Fy:=hO.ext hD;have Fa:=hD.get Ax;have Fb:=hD.get A9;have z0:=Fj.cellS shx.c0;have z1:=Fj.cellS shx.c1;have z2:=Fj.cellS shx.c2;have z3:=Fj.cellS shx.c3;have z4:=Fj.cellS shx.c4;have Ot:N<=wr.drew.heap.size:=Nat.le_trans hNw hD.size;generalize wr.drew=Wd at Fj Fy Fa Fb z0 z1 z2 z3 z4 Ot⊢;clear hE hO Ax A9 hD shx;have y4:=Z0 Fa 4;have x4:=Z0 Fb 4;simp only[List.getElem?_toArray,List.getElem?_cons_zero,List.getElem?_cons_succ] at y4 x4;have gz0:=GrE.cell (X:=fun q=>N<=q) Dw z0;have gz1:=GrE.cell (X:=fun q=>N<=q) Dw z1;have gz2:=GrE.cell (X:=fun q=>N<=q) Dw z2;have gz3:=GrE.cell (X:=fun q=>N<=q) Dw z3;have gz4:=GrE.cell (X:=fun q=>N<=q) Dw z4;have gy:=GrE.cell (X:=fun q=>N<=q) hn0N y4;have gx:=GrE.cell (X:=fun q=>N<=q) hn2N x4;refine Zjb (ExtX.pre _) [0,1,2,3,4,5,6,7,8,9,10,11] (by kernel_rfl) (by kernel_rfl) ?_;simp only[ZeD,List.getElem?_cons_succ,List.getElem?_cons_zero,List.cons_append,List.nil_append]
   repeat (go_big_quiet_step (fail))
   refine wpQuiet_nil ?_;refine Zj7 12 rfl (by kernel_rfl) rfl ?_;clear gz0 gz1 gz2 gz3 gz4 gy gx;refine Zf3 ⟨.slice (some ⟨Wd.heap.size,0,none⟩) 1 1,Wd.alloc (.cells #[.int .i64 s.a,.int .i64 s.m,.int .i64 s.M,.int .i64 s.wi,.int .i64 s.li] 80),by simp[go_sem,execOp,Act.eval],fun _=>Go.Nk.Ext.toX ((Ext.rfl' _).alloc _) _,?_⟩;have Gb:(Wd.alloc (.cells #[.int .i64 s.a,.int .i64 s.m,.int .i64 s.M,.int .i64 s.wi,.int .i64 s.li] 80)).heap[Wd.heap.size]? =some (.cells #[.int .i64 s.a,.int .i64 s.m,.int .i64 s.M,.int .i64 s.wi,.int .i64 s.li] 80):=by rw[Z3,if_pos rfl]
   have eA:=(Ext.rfl' Wd).alloc (.cells #[.int .i64 s.a,.int .i64 s.m,.int .i64 s.M,.int .i64 s.wi,.int .i64 s.li] 80);generalize Wd.alloc _=WA at Gb eA⊢;go_simp;refine Zj7 13 rfl (by kernel_rfl) rfl ?_;refine Zix _ _ rfl N u (ZS S B i) rfl (Fy.ext eA) ⟨Wd.heap.size,0,none⟩ 1 [s] rfl (by intro j v hj;have e5:Ziv [s]=[.int .i64 s.a,.int .i64 s.m,.int .i64 s.M,.int .i64 s.wi,.int .i64 s.li]:=rfl;rw[e5] at hj;rw[Z0c,Z0 Gb];simpa using hj) (by simp only[List.length_cons,List.length_nil];omega) (Nat.le_trans Ot eA.size) (fun v' W3 own3 Ib=>⟨fun _=>Zhv Ib (fun k hk=>(Fy.lt k hk).1),?_⟩);obtain⟨g3,cp3,rfl,_⟩:=own3.form (by simp);have Ba:∀q,q<N->W3.heap[q]? =Wd.heap[q]? :=fun q hq=>(Ib.block q (by have:=eA.size;omega) (by intro e;have:=(Fy.lt q e.symm).1;omega)).trans (eA.old q (by omega))
   have e3:Ext w W3:=(Fj.trans eA).grown Ib (fun k hk=>by have:=(Fy.lt k hk).1;omega);have Jm:=(Ba w.heap.size (by omega)).trans Fa;have Fc:=(Ba ob (by omega)).trans Fb;clear Ba Ib Gb eA Fy Fa Fb z0 z1 z2 z3 z4 y4 x4 Fj Ot;have k4:=Z0 Fc 4;have f4:=Z8 Fc 4;simp only[List.getElem?_toArray,List.getElem?_cons_zero,List.getElem?_cons_succ] at k4;go_simp;refine Zjb (ExtX.pre _) [14] (by kernel_rfl) (by kernel_rfl) ?_;simp only[ZeD,List.getElem?_cons_succ,List.getElem?_cons_zero,List.cons_append,List.nil_append]
   repeat (go_big_quiet_step (fail))
   refine wpQuiet_nil ?_;refine Zj7 15 rfl (by kernel_rfl) rfl ?_;refine Zie ⟨W3.setCell ⟨ob,4,none⟩ (.slice (some ⟨g3,0,none⟩) (ZS S B i++[s]).length cp3),by simp[go_sem,execOp,Act.eval,k4,f4],fun h=>absurd h (by decide),?_⟩;have Mk:=own3.same (fun k hk=>set_ne (w:=W3) (a:=⟨ob,4,none⟩) (show k≠ob by have:=(own3.lt k hk).1;omega) (.slice (some ⟨g3,0,none⟩) (ZS S B i++[s]).length cp3));have Jn:=Zb (i:=4) Fc (.slice (some ⟨g3,0,none⟩) (ZS S B i++[s]).length cp3);have Jo:=(set_ne (w:=W3) (a:=⟨ob,4,none⟩) (show w.heap.size≠ob by omega) (.slice (some ⟨g3,0,none⟩) (ZS S B i++[s]).length cp3)).trans Jm;have e4:=e3.setCell ⟨ob,4,none⟩ (.slice (some ⟨g3,0,none⟩) (ZS S B i++[s]).length cp3) (show w.heap.size<=ob by omega);have E2:N<=(W3.setCell ⟨ob,4,none⟩ (.slice (some ⟨g3,0,none⟩) (ZS S B i++[s]).length cp3)).heap.size:=by rw[(Go.Conc.aside_setCell _ _ _).size];have:=(own3.lt g3 rfl);omega
   clear Jm Fc e3 own3 k4 f4;generalize W3.setCell _ _=W4 at Mk Jn Jo e4 E2⊢;go_simp;refine Zjw (by kernel_rfl) ?_;go_wp2;exact⟨⟨i+1,_,by omega,by push_cast;rfl,e4,E2,Jo,Jn,by rw[HN.out];exact Mk⟩,by simp[intOf];omega⟩
end Go.Proofs.Tryq
namespace Go.Proofs.Tryq
set_option maxRecDepth 100000
set_option maxHeartbeats 4000000
open Go Go.Nk Go.RowKit
def Zg6(r0 r1 r2 r3:Int)(S:List Rs)(l:List Int)(i:Int):Bool:=match S[i.toNat]? with
 |some s=>decide ((Z57 r0 r1 r2 r3 S s.a l).1<=(Z57 r0 r1 r2 r3 S s.a l).2)
 |none=>false
theorem Zg2(r0 r1 r2 r3:Int)(base:Option Addr)(n cap:Nat)(S:List Rs)(bl:Option Addr)(k cl:Nat)(l:List Int)(w:World)(A1:S.length=n)(hn:n<=20)(hk:l.length=k)(Oi:k<=20)(An:∀j∈l,0<=j/\j<(n:Int))(hS:RawS w base S)(hl:RawI w bl l):
 Calls prog 43 #[.agg #[.int .i64 r0,.int .i64 r1,.int .i64 r2,.int .i64 r3,.slice base n cap],.slice bl k cl] w fun e w'=>e= .returned (.bool (Z20 r0 r1 r2 r3 S l))/\Ext w w':=by
 have H0:Hid (Z20 r0 r1 r2 r3 S l=(l.drop 0).all (Zg6 r0 r1 r2 r3 S l)):=rfl;have Bj:=(Ext.rfl' w).alloc (.cells #[.int .i64 r0,.int .i64 r1,.int .i64 r2,.int .i64 r3,.slice base n cap] 70);have Ax:(w.alloc (.cells #[.int .i64 r0,.int .i64 r1,.int .i64 r2,.int .i64 r3,.slice base n cap] 70)).heap[w.heap.size]? =some (.cells #[.int .i64 r0,.int .i64 r1,.int .i64 r2,.int .i64 r3,.slice base n cap] 70):=by rw[Z3,if_pos rfl]
 have Jq:=fun(Pt:0<k) d W (hW:Ext w W)=>Zg1 r0 r1 r2 r3 base n cap S bl k cl l d W A1 hn hk Oi Pt An (hS.ext hW) (hl.ext hW)
 replace A1:Hid (S.length=n):=A1;replace hk:Hid (l.length=k):=hk;replace An:Hid (∀j∈l,0<=j/\j<(n:Int)):=An;have Di:Hid (RawS w base S):=hS;have Cw:Hid (RawI w bl l):=hl;clear hS hl;go_enter func43,ntmps43;go_wp2_with fail;go_loopw [5] (fun v wr=>∃i:Nat,i<=k/\v= .int .i64 i/\Ext w wr/\wr.heap[w.heap.size]? =some (.cells #[.int .i64 r0,.int .i64 r1,.int .i64 r2,.int .i64 r3,.slice base n cap] 70)/\Hid (Z20 r0 r1 r2 r3 S l=(l.drop i).all (Zg6 r0 r1 r2 r3 S l))) (fun v _=>k - (intOf v).toNat)
 case atStart=>exact⟨0,Nat.zero_le _,rfl,Bj,Ax,H0⟩
 case round=>
  clear Bj Ax H0;obtain⟨i,hi,rfl,hE,hb,HP⟩:=hrel;by_cases J3:i=k
  ·subst J3;have HR:Hid (Z20 r0 r1 r2 r3 S l=true):=by show _=_;rw[HP.out,List.drop_of_length_le (by have:=hk.out;omega)];rfl
   clear HP Jq An Di Cw;go_wp2;go_ret;exact⟨ZP (a:=true) HR.out.symm,hE⟩
  ·have A3:i<k:=by omega
   have Ce:(i:Int)<(k:Int):=by omega
   obtain⟨j,hj⟩:∃j,l[i]? =some j:=⟨_,List.getElem?_eq_getElem (by have:=hk.out;omega)⟩;have Hj:=An.out j (List.mem_of_getElem? hj);obtain⟨J,rfl⟩:=Int.eq_ofNat_of_zero_le Hj.1;have Y0:J<n:=by omega
   have Pm:(J:Int)<(n:Int):=by omega
   obtain⟨s,hs⟩:∃s,S[J]? =some s:=⟨_,List.getElem?_eq_getElem (by have:=A1.out;omega)⟩;obtain⟨B0,O0,rfl,hB0,Bf⟩:=Cw.out i _ hj;obtain⟨BS,OS,rfl,hBS,sh⟩:=Di.out J s hs;have Fk:=Jq (by omega) s.a;have HN:Hid (Z20 r0 r1 r2 r3 S l=(decide ((Z57 r0 r1 r2 r3 S s.a l).1<=(Z57 r0 r1 r2 r3 S s.a l).2)&&(l.drop (i+1)).all (Zg6 r0 r1 r2 r3 S l))):=by
    show _=_;rw[HP.out,Z0b hj,List.all_cons,Zg6,Int.toNat_natCast,hs]
   obtain⟨⟨pa,pb⟩,HF0⟩:∃v,Z57 r0 r1 r2 r3 S s.a l=v:=⟨_,rfl⟩;rw[HF0] at HN Fk;have hc:=hE.cellS Bf;have s0:=hE.cellS sh.c0;clear HF0 hj hs HP Jq sh Bf Hj An Di Cw;have q0:=Z0 hb 0;have q1:=Z0 hb 1;have q2:=Z0 hb 2;have q3:=Z0 hb 3;have q4:=Z0 hb 4;simp only[List.getElem?_toArray,List.getElem?_cons_zero,List.getElem?_cons_succ] at q0 q1 q2 q3 q4;have g0:=Zet q0;have g1:=Zet q1;have g2:=Zet q2;have g3:=Zet q3;have g4:=Zet q4;have kc:=Zet hc;have ks:=Zet s0;go_wp2_with fail;refine Zfn 13 12 6 [0,1,2,3,4,5,6,7,8,9,10,11] (.cells #[.int .i64 0,.int .i64 0] 48) (by kernel_rfl) rfl (by kernel_rfl) rfl rfl (fun a W=>by simp[go_sem,execOp,Act.eval]) ?_;refine Zfj [0,1,2,3,4,5,6,7,8,9,10] (by kernel_rfl) rfl rfl (by kernel_rfl) ?_;simp only[ZeD,List.getElem?_cons_succ,List.getElem?_cons_zero,List.cons_append,List.nil_append]
   repeat (go_big_quiet_step (fail))
   refine wpQuiet_nil ?_;refine Zfr 11 (f:=102) (args:= #[.agg #[.int .i64 r0,.int .i64 r1,.int .i64 r2,.int .i64 r3,.slice (some ⟨BS,OS,none⟩) n cap],.slice (some ⟨B0,O0,none⟩) k cl,.int .i64 s.a]) (v:= .agg #[.int .i64 pa,.int .i64 pb]) (by kernel_rfl) rfl rfl rfl (by kernel_rfl) rfl (fun W=>by simp[go_sem,execOp,Act.eval]) (fun W hW=>Fk W (hE.trans hW)) ?_;go_simp;refine Zfq (by kernel_rfl) (fun W hW b hA C2 Ad=> ?_);obtain⟨bx,rfl⟩:∃bx,bx=b:=⟨_,rfl⟩;have Am:=hW;clear hW;go_simp;refine Zfp 1 (by kernel_rfl) (fun W hW=> ?_);simp only[List.drop_succ_cons,List.drop_zero];replace Ad:=hW.get Ad;have Az:=(hE.trans Am).trans hW;have C6:w.heap.size<=bx:=by have h1:=hA;have h2:=hE.size;omega
   have Kq:=Z5 hb;have hP:=set_pair Ad (.int .i64 pa) (.int .i64 pb);have hC:=Zfl (i:=0) (j:=1) (u:= .int .i64 pa) (v:= .int .i64 pb) (show w.heap.size≠bx by omega) (hW.get (Am.get hb));have I9:=(Az.setCell ⟨bx,0,none⟩ (.int .i64 pa) C6).setCell ⟨bx,1,none⟩ (.int .i64 pb) C6;have g:=Zc Ad;have p0:=g.1;have p1:=g.2.1;have p2:=g.2.2.1;have p3:=g.2.2.2;clear g Az hE Am hW hA C2 hb Kq C6 q0 q1 q2 q3 q4 g0 g1 g2 g3 g4 ks kc s0 hc Fk;go_wp2_with fail;generalize (W.setCell ⟨bx,0,none⟩ (.int .i64 pa)).setCell ⟨bx,1,none⟩ (.int .i64 pb)=Y at*;clear p0 p1 p2 p3 Ad;refine Zfm ?_;have y:=Zc hP;have y0:=y.1;have y1:=y.2.1;clear y;by_cases G6:pb<pa
   ·have B8:decide (pa<=pb)=false:=(by simp;omega);go_wp2_with fail;go_ret;exact⟨ZP (a:=false) (by rw[HN.out,B8];rfl),I9⟩
   ·have B8:decide (pa<=pb)=true:=(by simp;omega);have HN2:Hid (Z20 r0 r1 r2 r3 S l=(l.drop (i+1)).all (Zg6 r0 r1 r2 r3 S l)):=(by show _=_;rw[HN.out,B8];rfl);clear B8 HN;go_wp2_with fail;exact⟨⟨i+1,by omega,by push_cast;rfl,I9,hC,HN2⟩,by simp[intOf];omega⟩
theorem Zgh(s:Rs):okS s=(inR s.a 0 90&&decide (0<=s.m/\s.m<=s.M/\s.M<=99999)&&inR s.wi 0 9&&inR s.li 0 9):=rfl
theorem Zga(r0 r1 r2 r3:Int):Z5y r0 r1 r2 r3=if inR r0 0 999&&inR r1 0 999&&inR r2 0 999&&inR r3 0 999&&decide (r0<=r1) then 0 else 1:=rfl
theorem ZfQ(r0 r1 r2 r3:Int)(base:Option Addr)(n cap:Nat)(S:List Rs)(w:World)(A1:S.length=n)(hS:RawS w base S):
 Calls prog 63 #[.agg #[.int .i64 r0,.int .i64 r1,.int .i64 r2,.int .i64 r3,.slice base n cap]] w fun e w'=>e= .returned (.int .i64 (ZC r0 r1 r2 r3 S))/\Ext w w':=by
 have H0:Hid (ZC r0 r1 r2 r3 S=if inR r0 0 999&&inR r1 0 999&&inR r2 0 999&&inR r3 0 999&&decide (r0<=r1) then(if 8<n then 2 else if(S.drop 0).all okS then 0 else 1) else 1):=by
  show _=_;rw[ZC,firstV,Zga];by_cases h:(inR r0 0 999&&inR r1 0 999&&inR r2 0 999&&inR r3 0 999&&decide (r0<=r1))=true
  ·rw[if_pos h,if_pos h,if_pos rfl,firstV,Z23,A1];by_cases h8:8<n
   ·simp[h8]
   ·rw[if_neg h8,List.drop_zero];by_cases ha:S.all okS=true
    ·simp[h8,ha,firstV]
    ·simp[h8,ha]
  ·rw[if_neg h,if_neg h,if_neg (by decide)]
 have Ec:=fun W=>Zgc r0 0 999 W;have D0:=fun W=>Zgc r1 0 999 W;have Cg:=fun W=>Zgc r2 0 999 W;have Ep:=fun W=>Zgc r3 0 999 W
 generalize inR r0 0 999=b0 at*;generalize inR r1 0 999=b1 at*;generalize inR r2 0 999=b2 at*;generalize inR r3 0 999=b3 at*;have Bj:=((Ext.rfl' w).alloc (.cells #[.int .i64 r0,.int .i64 r1,.int .i64 r2,.int .i64 r3,.slice base n cap] 70)).alloc (.cells #[.int .i64 r0,.int .i64 r1,.int .i64 r2,.int .i64 r3] 67);have Ax:((w.alloc (.cells #[.int .i64 r0,.int .i64 r1,.int .i64 r2,.int .i64 r3,.slice base n cap] 70)).alloc (.cells #[.int .i64 r0,.int .i64 r1,.int .i64 r2,.int .i64 r3] 67)).heap[w.heap.size]? =some (.cells #[.int .i64 r0,.int .i64 r1,.int .i64 r2,.int .i64 r3,.slice base n cap] 70):=by
  simp only[Z3,Z2];rw[if_neg (by omega),if_pos trivial]
 replace A1:Hid (S.length=n):=A1;have Di:Hid (RawS w base S):=hS;clear hS;cases b0 with
 |false=>(
   have H1:Hid (ZC r0 r1 r2 r3 S=1):=by show _=_;rw[H0.out];simp
   clear H0;go_enter func63,ntmps63;go_wp2_with (first|(go_at_call 93;(with_reducible refine(Ec _).mono ?_);rintro e w2 ⟨rfl,rfl⟩)|(go_at_call 93;(with_reducible refine(D0 _).mono ?_);rintro e w2 ⟨rfl,rfl⟩)|(go_at_call 93;(with_reducible refine(Cg _).mono ?_);rintro e w2 ⟨rfl,rfl⟩)|(go_at_call 93;(with_reducible refine(Ep _).mono ?_);rintro e w2 ⟨rfl,rfl⟩));go_ret;exact⟨ZK (a:=1) H1.out.symm,Bj⟩)
 |true=>
  cases b1 with
  |false=>(
    have H1:Hid (ZC r0 r1 r2 r3 S=1):=(by show _=_;rw[H0.out];simp);clear H0;go_enter func63,ntmps63;go_wp2_with (first|(go_at_call 93;(with_reducible refine(Ec _).mono ?_);rintro e w2 ⟨rfl,rfl⟩)|(go_at_call 93;(with_reducible refine(D0 _).mono ?_);rintro e w2 ⟨rfl,rfl⟩)|(go_at_call 93;(with_reducible refine(Cg _).mono ?_);rintro e w2 ⟨rfl,rfl⟩)|(go_at_call 93;(with_reducible refine(Ep _).mono ?_);rintro e w2 ⟨rfl,rfl⟩));go_ret;exact⟨ZK (a:=1) H1.out.symm,Bj⟩)
  |true=>
   cases b2 with
   |false=>(
     have H1:Hid (ZC r0 r1 r2 r3 S=1):=(by show _=_;rw[H0.out];simp);clear H0;go_enter func63,ntmps63;go_wp2_with (first|(go_at_call 93;(with_reducible refine(Ec _).mono ?_);rintro e w2 ⟨rfl,rfl⟩)|(go_at_call 93;(with_reducible refine(D0 _).mono ?_);rintro e w2 ⟨rfl,rfl⟩)|(go_at_call 93;(with_reducible refine(Cg _).mono ?_);rintro e w2 ⟨rfl,rfl⟩)|(go_at_call 93;(with_reducible refine(Ep _).mono ?_);rintro e w2 ⟨rfl,rfl⟩));go_ret;exact⟨ZK (a:=1) H1.out.symm,Bj⟩)
   |true=>
    cases b3 with
    |false=>(
      have H1:Hid (ZC r0 r1 r2 r3 S=1):=(by show _=_;rw[H0.out];simp);clear H0;go_enter func63,ntmps63;go_wp2_with (first|(go_at_call 93;(with_reducible refine(Ec _).mono ?_);rintro e w2 ⟨rfl,rfl⟩)|(go_at_call 93;(with_reducible refine(D0 _).mono ?_);rintro e w2 ⟨rfl,rfl⟩)|(go_at_call 93;(with_reducible refine(Cg _).mono ?_);rintro e w2 ⟨rfl,rfl⟩)|(go_at_call 93;(with_reducible refine(Ep _).mono ?_);rintro e w2 ⟨rfl,rfl⟩));go_ret;exact⟨ZK (a:=1) H1.out.symm,Bj⟩)
    |true=>
     by_cases hr:r0<=r1
     ·have Tx:decide (r0<=r1)=true:=decide_eq_true hr;rw[Tx] at H0;simp only[Bool.and_self,if_true] at H0;clear Tx;by_cases h8:8<n
      ·have h8i:(8:Int)<(n:Int):=(by omega);have H1:Hid (ZC r0 r1 r2 r3 S=2):=(by show _=_;rw[H0.out,if_pos h8]);clear H0 h8;go_enter func63,ntmps63;go_wp2_with (first|(go_at_call 93;(with_reducible refine(Ec _).mono ?_);rintro e w2 ⟨rfl,rfl⟩)|(go_at_call 93;(with_reducible refine(D0 _).mono ?_);rintro e w2 ⟨rfl,rfl⟩)|(go_at_call 93;(with_reducible refine(Cg _).mono ?_);rintro e w2 ⟨rfl,rfl⟩)|(go_at_call 93;(with_reducible refine(Ep _).mono ?_);rintro e w2 ⟨rfl,rfl⟩));go_ret;exact⟨ZK (a:=2) H1.out.symm,Bj⟩
      ·have h8i:(n:Int)<=8:=(by omega);have H1:Hid (ZC r0 r1 r2 r3 S=if(S.drop 0).all okS then 0 else 1):=(by show _=_;rw[H0.out,if_neg h8]);clear H0 h8;go_enter func63,ntmps63;go_wp2_with (first|(go_at_call 93;(with_reducible refine(Ec _).mono ?_);rintro e w2 ⟨rfl,rfl⟩)|(go_at_call 93;(with_reducible refine(D0 _).mono ?_);rintro e w2 ⟨rfl,rfl⟩)|(go_at_call 93;(with_reducible refine(Cg _).mono ?_);rintro e w2 ⟨rfl,rfl⟩)|(go_at_call 93;(with_reducible refine(Ep _).mono ?_);rintro e w2 ⟨rfl,rfl⟩));clear Ec D0 Cg Ep;go_loopw [4] (fun v wr=>∃i:Nat,i<=n/\v= .int .i64 i/\Ext w wr/\wr.heap[w.heap.size]? =some (.cells #[.int .i64 r0,.int .i64 r1,.int .i64 r2,.int .i64 r3,.slice base n cap] 70)/\Hid (ZC r0 r1 r2 r3 S=if(S.drop i).all okS then 0 else 1)) (fun v _=>n - (intOf v).toNat)
       case atStart=>exact⟨0,Nat.zero_le _,rfl,Bj,Ax,H1⟩
       case round=>
        clear Bj Ax H1;obtain⟨i,hi,rfl,hE,hb,HP⟩:=hrel;have q4:=Z0 hb 4;simp only[List.getElem?_toArray,List.getElem?_cons_zero,List.getElem?_cons_succ] at q4;by_cases An:i=n
        ·subst An;have HR:Hid (ZC r0 r1 r2 r3 S=0):=(by show _=_;rw[HP.out,List.drop_of_length_le (by have:=A1.out;omega)];rfl);clear HP;go_wp2;go_ret;exact⟨ZK (a:=0) HR.out.symm,hE⟩
        ·have A3:i<n:=(by omega);have Ce:(i:Int)<(n:Int):=(by omega);obtain⟨s,hs⟩:∃s,S[i]? =some s:=⟨_,List.getElem?_eq_getElem (by have:=A1.out;omega)⟩;obtain⟨BS,OS,rfl,hBS,sh⟩:=Di.out i s hs;have HN:Hid (ZC r0 r1 r2 r3 S=if inR s.a 0 90&&decide (0<=s.m/\s.m<=s.M/\s.M<=99999)&&inR s.wi 0 9&&inR s.li 0 9&&(S.drop (i+1)).all okS then 0 else 1):=(by show _=_;rw[HP.out,Z0b hs,List.all_cons,Zgh]);have s0:=hE.cellS sh.c0;have s1:=hE.cellS sh.c1;have s2:=hE.cellS sh.c2;have s3:=hE.cellS sh.c3;have s4:=hE.cellS sh.c4;have Ec:=fun W=>Zgc s.a 0 90 W;have Cg:=fun W=>Zgc s.wi 0 9 W;have Ep:=fun W=>Zgc s.li 0 9 W
         have D0:=fun W=>Z2e s.m s.M 0 99999 W
         clear HP hs sh Di;generalize inR s.a 0 90=b0 at*;generalize decide (0<=s.m/\s.m<=s.M/\s.M<=99999)=b1 at*;generalize inR s.wi 0 9=b2 at*;generalize inR s.li 0 9=b3 at*;have A7:=hE.alloc (.cells #[.int .i64 s.a,.int .i64 s.m,.int .i64 s.M,.int .i64 s.wi,.int .i64 s.li] 80);have A9:=((Ext.rfl' wr).alloc (.cells #[.int .i64 s.a,.int .i64 s.m,.int .i64 s.M,.int .i64 s.wi,.int .i64 s.li] 80)).get hb;have Aw:(wr.alloc (.cells #[.int .i64 s.a,.int .i64 s.m,.int .i64 s.M,.int .i64 s.wi,.int .i64 s.li] 80)).heap[wr.heap.size]? =some (.cells #[.int .i64 s.a,.int .i64 s.m,.int .i64 s.M,.int .i64 s.wi,.int .i64 s.li] 80):=(by rw[Z3,if_pos rfl]);cases b0 with
         |false=>(
           have HN2:Hid (ZC r0 r1 r2 r3 S=1):=(by show _=_;rw[HN.out];simp);clear HN;go_wp2_with (first|(go_at_call 93;(with_reducible refine(Ec _).mono ?_);rintro e w2 ⟨rfl,rfl⟩)|(go_at_call 95;(with_reducible refine(D0 _).mono ?_);rintro e w9 ⟨rfl,Bc⟩;replace A7:=A7.trans Bc;replace A9:=Bc.get A9;replace Aw:=Bc.get Aw;clear Bc;have y0:=Z0 Aw 0;have y1:=Z0 Aw 1;have y2:=Z0 Aw 2;have y3:=Z0 Aw 3;have y4:=Z0 Aw 4;simp only[List.getElem?_toArray,List.getElem?_cons_zero,List.getElem?_cons_succ] at y0 y1 y2 y3 y4)|(go_at_call 93;(with_reducible refine(Cg _).mono ?_);rintro e w2 ⟨rfl,rfl⟩)|(go_at_call 93;(with_reducible refine(Ep _).mono ?_);rintro e w2 ⟨rfl,rfl⟩));go_ret;exact⟨ZK (a:=1) HN2.out.symm,A7⟩)
         |true=>
          cases b1 with
          |false=>(
            have HN2:Hid (ZC r0 r1 r2 r3 S=1):=(by show _=_;rw[HN.out];simp);clear HN;go_wp2_with (first|(go_at_call 93;(with_reducible refine(Ec _).mono ?_);rintro e w2 ⟨rfl,rfl⟩)|(go_at_call 95;(with_reducible refine(D0 _).mono ?_);rintro e w9 ⟨rfl,Bc⟩;replace A7:=A7.trans Bc;replace A9:=Bc.get A9;replace Aw:=Bc.get Aw;clear Bc;have y0:=Z0 Aw 0;have y1:=Z0 Aw 1;have y2:=Z0 Aw 2;have y3:=Z0 Aw 3;have y4:=Z0 Aw 4;simp only[List.getElem?_toArray,List.getElem?_cons_zero,List.getElem?_cons_succ] at y0 y1 y2 y3 y4)|(go_at_call 93;(with_reducible refine(Cg _).mono ?_);rintro e w2 ⟨rfl,rfl⟩)|(go_at_call 93;(with_reducible refine(Ep _).mono ?_);rintro e w2 ⟨rfl,rfl⟩));go_ret;exact⟨ZK (a:=1) HN2.out.symm,A7⟩)
          |true=>
           cases b2 with
           |false=>(
             have HN2:Hid (ZC r0 r1 r2 r3 S=1):=(by show _=_;rw[HN.out];simp);clear HN;go_wp2_with (first|(go_at_call 93;(with_reducible refine(Ec _).mono ?_);rintro e w2 ⟨rfl,rfl⟩)|(go_at_call 95;(with_reducible refine(D0 _).mono ?_);rintro e w9 ⟨rfl,Bc⟩;replace A7:=A7.trans Bc;replace A9:=Bc.get A9;replace Aw:=Bc.get Aw;clear Bc;have y0:=Z0 Aw 0;have y1:=Z0 Aw 1;have y2:=Z0 Aw 2;have y3:=Z0 Aw 3;have y4:=Z0 Aw 4;simp only[List.getElem?_toArray,List.getElem?_cons_zero,List.getElem?_cons_succ] at y0 y1 y2 y3 y4)|(go_at_call 93;(with_reducible refine(Cg _).mono ?_);rintro e w2 ⟨rfl,rfl⟩)|(go_at_call 93;(with_reducible refine(Ep _).mono ?_);rintro e w2 ⟨rfl,rfl⟩));go_ret;exact⟨ZK (a:=1) HN2.out.symm,A7⟩)
           |true=>
            cases b3 with
            |false=>(
              have HN2:Hid (ZC r0 r1 r2 r3 S=1):=(by show _=_;rw[HN.out];simp);clear HN;go_wp2_with (first|(go_at_call 93;(with_reducible refine(Ec _).mono ?_);rintro e w2 ⟨rfl,rfl⟩)|(go_at_call 95;(with_reducible refine(D0 _).mono ?_);rintro e w9 ⟨rfl,Bc⟩;replace A7:=A7.trans Bc;replace A9:=Bc.get A9;replace Aw:=Bc.get Aw;clear Bc;have y0:=Z0 Aw 0;have y1:=Z0 Aw 1;have y2:=Z0 Aw 2;have y3:=Z0 Aw 3;have y4:=Z0 Aw 4;simp only[List.getElem?_toArray,List.getElem?_cons_zero,List.getElem?_cons_succ] at y0 y1 y2 y3 y4)|(go_at_call 93;(with_reducible refine(Cg _).mono ?_);rintro e w2 ⟨rfl,rfl⟩)|(go_at_call 93;(with_reducible refine(Ep _).mono ?_);rintro e w2 ⟨rfl,rfl⟩));go_ret;exact⟨ZK (a:=1) HN2.out.symm,A7⟩)
            |true=>
             have HN2:Hid (ZC r0 r1 r2 r3 S=if(S.drop (i+1)).all okS then 0 else 1):=(by show _=_;rw[HN.out];rfl);clear HN;go_wp2_with (first|(go_at_call 93;(with_reducible refine(Ec _).mono ?_);rintro e w2 ⟨rfl,rfl⟩)|(go_at_call 95;(with_reducible refine(D0 _).mono ?_);rintro e w9 ⟨rfl,Bc⟩;replace A7:=A7.trans Bc;replace A9:=Bc.get A9;replace Aw:=Bc.get Aw;clear Bc;have y0:=Z0 Aw 0;have y1:=Z0 Aw 1;have y2:=Z0 Aw 2;have y3:=Z0 Aw 3;have y4:=Z0 Aw 4;simp only[List.getElem?_toArray,List.getElem?_cons_zero,List.getElem?_cons_succ] at y0 y1 y2 y3 y4)|(go_at_call 93;(with_reducible refine(Cg _).mono ?_);rintro e w2 ⟨rfl,rfl⟩)|(go_at_call 93;(with_reducible refine(Ep _).mono ?_);rintro e w2 ⟨rfl,rfl⟩));go_roundw
             case rel=>exact⟨i+1,by omega,by push_cast;rfl,A7,A9,HN2⟩
             case measure=>simp[intOf];omega
     ·have Tx:decide (r0<=r1)=false:=decide_eq_false hr;have hri:r1<r0:=(by omega);have H1:Hid (ZC r0 r1 r2 r3 S=1):=(by show _=_;rw[H0.out,Tx];simp);clear H0 Tx;go_enter func63,ntmps63;go_wp2_with (first|(go_at_call 93;(with_reducible refine(Ec _).mono ?_);rintro e w2 ⟨rfl,rfl⟩)|(go_at_call 93;(with_reducible refine(D0 _).mono ?_);rintro e w2 ⟨rfl,rfl⟩)|(go_at_call 93;(with_reducible refine(Cg _).mono ?_);rintro e w2 ⟨rfl,rfl⟩)|(go_at_call 93;(with_reducible refine(Ep _).mono ?_);rintro e w2 ⟨rfl,rfl⟩));go_ret;exact⟨ZK (a:=1) H1.out.symm,Bj⟩
end Go.Proofs.Tryq
namespace Go.Proofs.Tryq
set_option maxRecDepth 100000
set_option maxHeartbeats 2000000
open Go Go.Nk Go.RowKit
def ZfR(r0 r1 r2 r3:Int)(S:List Rs):Bool:=decide (S.length<=20)&&(ZC r0 r1 r2 r3 S==0)
theorem Zgb(r0 r1 r2 r3:Int)(base:Option Addr)(n cap:Nat)(S:List Rs)(w:World)(A1:S.length=n)(hS:RawS w base S):
 Calls prog 42 #[.agg #[.int .i64 r0,.int .i64 r1,.int .i64 r2,.int .i64 r3,.slice base n cap]] w fun e w'=>e= .returned (.bool (ZfR r0 r1 r2 r3 S))/\Ext w w':=by
 have hc:=fun W (hW:Ext w W)=>ZfQ r0 r1 r2 r3 base n cap S W A1 (hS.ext hW)
 have hE:=(Ext.rfl' w).alloc (.cells #[.int .i64 r0,.int .i64 r1,.int .i64 r2,.int .i64 r3,.slice base n cap] 70);by_cases Nt:n<=20
 ·have h20i:(n:Int)<=20:=by omega
  have hf:Hid (ZfR r0 r1 r2 r3 S=(ZC r0 r1 r2 r3 S==0)):=by show _=_;rw[ZfR,A1];simp[Nt]
  generalize ZC r0 r1 r2 r3 S=f at hc hf;generalize ZfR r0 r1 r2 r3 S=g at hf⊢;clear Nt;go_enter func42,ntmps42;go_wp2_with (first|(go_at_call 63;refine(hc _ hE).mono ?_;rintro e w2 ⟨rfl,A7⟩));go_ret;exact⟨ZP (a:=f==0) hf.out.symm,hE.trans A7⟩
 ·have h20i:(20:Int)<(n:Int):=by omega
  have hf:Hid (ZfR r0 r1 r2 r3 S=false):=by show _=_;rw[ZfR,A1];simp[Nt]
  generalize ZfR r0 r1 r2 r3 S=g at hf⊢;clear Nt hc;go_enter func42,ntmps42;go_wp2_with fail;go_ret;exact⟨ZP (a:=false) hf.out.symm,hE⟩
end Go.Proofs.Tryq
