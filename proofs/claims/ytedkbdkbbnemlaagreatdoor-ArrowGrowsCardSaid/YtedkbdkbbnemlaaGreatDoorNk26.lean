import Derived.Test.YtedkbdkbbnemlaaGreatDoorNk25
set_option linter.all false
namespace Go.Proofs.Tryq
set_option maxRecDepth 100000
set_option maxHeartbeats 4000000
open Go Go.Nk Go.RowKit
def Z8F(r0 r1 r2 r3:Int)(S:List Rs)(a m k:Int):Int:=firstV (Zy r0 r1 r2 r3 S [Zv a,Z87 m k])
def hitV(x:Int×Int)(m k:Int):Int:=if max x.1 (wrap64 (m - k))=x.1/\min x.2 (wrap64 (m+k))=x.2 then 1 else if min x.2 (wrap64 (m+k))<max x.1 (wrap64 (m - k)) then 2 else 0
def Z6c(r0 r1 r2 r3:Int)(S:List Rs)(a m k:Int):Int:=if Z8F r0 r1 r2 r3 S a m k=0 then hitV (Z4L r0 r1 r2 r3 S a) m k else 0
theorem Zfl{w:World}{c b i j:Nat}{u v:Value}{o:Obj}(hn:c≠b)(h:w.heap[c]? =some o):((w.setCell ⟨b,i,none⟩ u).setCell ⟨b,j,none⟩ v).heap[c]? =some o:=
 (set_ne (w:=w.setCell _ _) hn _).trans ((set_ne hn _).trans h)
theorem Zc7(r0 r1 r2 r3:Int)(base:Option Addr)(n cap:Nat)(w:World)(at' mark within:Int)(S:List Rs)(A1:S.length=n)(hS:RawS w base S)(Ce:Most w):
 Calls prog 53 #[.agg #[.int .i64 r0,.int .i64 r1,.int .i64 r2,.int .i64 r3,.slice base n cap],.int .i64 at',.int .i64 mark,.int .i64 within] w fun e w'=>
  e= .returned (.tuple #[.int .i64 (Z6c r0 r1 r2 r3 S at' mark within),.int .i64 (Z8F r0 r1 r2 r3 S at' mark within)])/\Ext w w':=by
 go_enter func53,ntmps53;go_wp2_with fail;have Ab:Ext w _:=(((Ext.rfl' w).alloc (.cells #[.int .i64 r0,.int .i64 r1,.int .i64 r2,.int .i64 r3,.slice base n cap] 70)).alloc (.cells #[.int .i64 mark] 3)).alloc (.cells #[.int .i64 within] 3);have hb:(((w.alloc (.cells #[.int .i64 r0,.int .i64 r1,.int .i64 r2,.int .i64 r3,.slice base n cap] 70)).alloc (.cells #[.int .i64 mark] 3)).alloc (.cells #[.int .i64 within] 3)).heap[w.heap.size]? =some (.cells #[.int .i64 r0,.int .i64 r1,.int .i64 r2,.int .i64 r3,.slice base n cap] 70):=by
  simp only[Z3,Z2];rw[if_neg (by omega),if_neg (by omega),if_pos trivial]
 have hZ:(((w.alloc (.cells #[.int .i64 r0,.int .i64 r1,.int .i64 r2,.int .i64 r3,.slice base n cap] 70)).alloc (.cells #[.int .i64 mark] 3)).alloc (.cells #[.int .i64 within] 3)).heap[w.heap.size+1]? =some (.cells #[.int .i64 mark] 3):=by
  simp only[Z3,Z2];rw[if_neg (by omega),if_pos trivial]
 have hY:(((w.alloc (.cells #[.int .i64 r0,.int .i64 r1,.int .i64 r2,.int .i64 r3,.slice base n cap] 70)).alloc (.cells #[.int .i64 mark] 3)).alloc (.cells #[.int .i64 within] 3)).heap[w.heap.size+1+1]? =some (.cells #[.int .i64 within] 3):=by
  simp only[Z3,Z2];rw[if_pos trivial]
 generalize World.alloc _ _=w1 at Ab hb hZ hY⊢;have hX:=Ext.rfl' w1;have q0:=Z0 hb 0;have q1:=Z0 hb 1;have q2:=Z0 hb 2;have q3:=Z0 hb 3;have q4:=Z0 hb 4;simp only[List.getElem?_toArray,List.getElem?_cons_zero,List.getElem?_cons_succ] at q0 q1 q2 q3 q4;have g0:=Zet q0;have g1:=Zet q1;have g2:=Zet q2;have g3:=Zet q3;have g4:=Zet q4;have r1':w1.cell? ⟨w.heap.size+1,0,none⟩=some (.int .i64 mark):=by rw[Z0 hZ];rfl
 have r2':w1.cell? ⟨w.heap.size+1+1,0,none⟩=some (.int .i64 within):=by rw[Z0 hY];rfl
 refine Zfn 10 9 10 [0,1,2,3,4,5,6,7] (.cells #[.int .i64 0,.int .i64 0,.int .i64 0,.int .i64 0,.slice none 0 0,.slice none 0 0] 146) (by kernel_rfl) rfl (by kernel_rfl) rfl rfl (fun a W=>by simp[go_sem,execOp,Act.eval]) ?_;refine Zfj [0,1,3] (by kernel_rfl) rfl rfl (by kernel_rfl) ?_;simp only[ZeD,List.getElem?_cons_succ,List.getElem?_cons_zero,List.cons_append,List.nil_append]
 repeat (go_big_quiet_step (fail))
 refine wpQuiet_nil ?_;refine Zfk 2 rfl (by kernel_rfl) rfl (fun W hW=>Zfo (f:=104) (args:= #[.int .i64 at']) (by simp[go_sem,execOp,Act.eval]) ?_);refine(Z9v at' W).mono ?_;rintro e V0 ⟨p0,rfl,hF,D2⟩;refine⟨.func (.func 151) #[] #[.pointer (some ⟨p0,0,none⟩)],rfl,hF,?_⟩;replace hX:=hX.trans (hW.trans hF);clear hF hW;go_simp;refine Zfk 4 rfl (by kernel_rfl) rfl (fun W hW=>Zf3 ⟨.slice (some ⟨W.heap.size,0,none⟩) 2 2,W.alloc (.cells #[.func (.func 151) #[] #[.pointer (some ⟨p0,0,none⟩)],.func (.func 113) #[] #[.pointer (some ⟨w.heap.size+1,0,none⟩),.pointer (some ⟨w.heap.size+1+1,0,none⟩)]] 127),by simp[go_sem,execOp,Act.eval],(Ext.rfl' W).alloc _,?_⟩);have Bf:=Z30 W #[.func (.func 151) #[] #[.pointer (some ⟨p0,0,none⟩)],.func (.func 113) #[] #[.pointer (some ⟨w.heap.size+1,0,none⟩),.pointer (some ⟨w.heap.size+1+1,0,none⟩)]] [(151,#[],#[.pointer (some ⟨p0,0,none⟩)]),(113,#[],#[.pointer (some ⟨w.heap.size+1,0,none⟩),.pointer (some ⟨w.heap.size+1+1,0,none⟩)])] W.heap.size rfl rfl;have hF:=(hW.alloc (.cells #[.func (.func 151) #[] #[.pointer (some ⟨p0,0,none⟩)],.func (.func 113) #[] #[.pointer (some ⟨w.heap.size+1,0,none⟩),.pointer (some ⟨w.heap.size+1+1,0,none⟩)]] 127));replace hX:=hX.trans hF
 replace D2:=hF.cellS D2;clear hF hW;generalize W.heap.size=B2 at Bf⊢;generalize World.alloc W _=V9 at*;go_simp;refine Zfk 5 rfl (by kernel_rfl) rfl (fun W hW=>Zfo (f:=103) (args:= #[.agg #[.int .i64 r0,.int .i64 r1,.int .i64 r2,.int .i64 r3,.slice base n cap],.slice (some ⟨B2,0,none⟩) 2 2]) (by simp[go_sem,execOp,Act.eval]) ?_)
 refine(Z4K r0 r1 r2 r3 base n cap W 2 B2 (by omega) [(151,#[],#[.pointer (some ⟨p0,0,none⟩)]),(113,#[],#[.pointer (some ⟨w.heap.size+1,0,none⟩),.pointer (some ⟨w.heap.size+1+1,0,none⟩)])] [Zv at',Z87 mark within] rfl rfl (fun j x hj=>hW.cellS (Bf j x hj)) (by intro x hx args w';simp only[List.mem_cons,List.not_mem_nil,or_false] at hx;rcases hx with rfl|rfl<;>simp[go_sem]) (by
       intro j x r hj hr w' hw'
       match j,hj,hr with
       |0,hj,hr=>
        obtain rfl:=Option.some.inj hj;obtain rfl:=Option.some.inj hr;exact Z3x p0 at' w' ((hW.trans hw').cellS D2)
       |1,hj,hr=>
        obtain rfl:=Option.some.inj hj;obtain rfl:=Option.some.inj hr;exact ZcY _ _ mark within w' ((hX.trans (hW.trans hw')).cellS r1') ((hX.trans (hW.trans hw')).cellS r2')) S A1 (hS.ext (Ab.trans (hX.trans hW))) (Ce.ext (Ab.trans (hX.trans hW)))).mono ?_
 rintro e V10 ⟨k0,k1,k2,k3,b4,n4,c4,b5,n5,c5,rfl,hF,C9⟩;refine⟨.tuple #[.agg #[.int .i64 k0,.int .i64 k1,.int .i64 k2,.int .i64 k3,.slice b4 n4 c4,.slice b5 n5 c5],.int .i64 (firstV (Zy r0 r1 r2 r3 S [Zv at',Z87 mark within]))],rfl,hF,?_⟩;replace hX:=hX.trans (hW.trans hF);have Ao:Askd r0 r1 r2 r3 base n cap S [Zv at',Z87 mark within] k0 k1 k2 k3 b4 n4 c4 b5 n5 c5 V10:=fun h=>by obtain⟨B,p,h0,h1,h2,h3,h4,h5,h6,h7,h8,h9,hC,_⟩:=C9 h;exact⟨B,p,h0,h1,h2,h3,h4,h5,h6,h7,h8,h9,hC⟩
 clear hF hW C9 Bf D2;go_simp;refine Zfj [6,7,8] (by kernel_rfl) rfl rfl (by kernel_rfl) ?_;simp only[ZeD,List.getElem?_cons_succ,List.getElem?_cons_zero,List.cons_append,List.nil_append]
 repeat (go_big_quiet_step (fail))
 refine wpQuiet_nil ?_;refine Zfq (by kernel_rfl) (fun W hW b hA C0 Ac=> ?_);have Gj:w1.heap.size<=b:=hA.1.1.1;replace hX:=hX.trans hW;replace Ao:=Ao.ext hW;clear r1' r2';clear hW;go_simp;refine Zfp 2 (by kernel_rfl) (fun W hW=> ?_);simp only[List.drop_succ_cons,List.drop_zero];replace hX:=hX.trans hW;replace Ao:=Ao.ext hW;replace Ac:=hW.get Ac;have C6:w.heap.size<=b:=by have h1:=Gj;have h2:=Ab.size;omega
 have T4:=hX.get hZ;have Uw:w.heap.size+1≠b:=by have h1:=Gj;have h2:=Z5 hZ;omega
 have T5:=hX.get hY;have Ux:w.heap.size+1+1≠b:=by have h1:=Gj;have h2:=Z5 hY;omega
 have B3:=Ab.trans hX;clear hA Gj C0 hW hX Ab hb q0 q1 q2 q3 q4 g0 g1 g2 g3 g4 hZ hY;have x0:=Z8 Ac 0;have x1:=Z8 Ac 1;have x2:=Z8 Ac 2;have x3:=Z8 Ac 3;have x4:=Z8 Ac 4;have x5:=Z8 Ac 5;have y0:=Z0 Ac 0;have y1:=Z0 Ac 1;have y2:=Z0 Ac 2;have y3:=Z0 Ac 3;have y4:=Z0 Ac 4;have y5:=Z0 Ac 5;simp only[List.getElem?_toArray,List.getElem?_cons_zero,List.getElem?_cons_succ] at y0 y1 y2 y3 y4 y5;have Aj:=Z0K Ac (.int .i64 k0) (.int .i64 k1) (.int .i64 k2) (.int .i64 k3) (.slice b4 n4 c4) (.slice b5 n5 c5);obtain⟨hX,Dh⟩:=Aj;replace Ao:=Ao.stored Ac Dh;replace B3:=Dh.before B3 C6;have La:=Dh.get Uw T4;have Mc:=Dh.get Ux T5;go_wp2_with fail;generalize ((((((W.setCell ⟨b,0,none⟩ (.int .i64 k0)).setCell ⟨b,1,none⟩ (.int .i64 k1)).setCell ⟨b,2,none⟩ (.int .i64 k2)).setCell ⟨b,3,none⟩ (.int .i64 k3)).setCell ⟨b,4,none⟩ (.slice b4 n4 c4)).setCell ⟨b,5,none⟩ (.slice b5 n5 c5))=X at hX Ao B3 Dh La Mc⊢;clear Dh Ac C6 x0 x1 x2 x3 x4 x5 y0 y1 y2 y3 y4 y5 T4 T5;refine Zfm ?_;go_wp2_with fail
 ·have A8:(firstV (Zy r0 r1 r2 r3 S [Zv at',Z87 mark within]) !=0)=true:=by assumption
  have Bp:¬Z8F r0 r1 r2 r3 S at' mark within=0:=by simpa[Z8F] using A8
  go_ret2;exact⟨by rw[Z6c,if_neg Bp];rfl,B3⟩
 ·have heq:(firstV (Zy r0 r1 r2 r3 S [Zv at',Z87 mark within]) !=0)=false:=by assumption
  have Bp:firstV (Zy r0 r1 r2 r3 S [Zv at',Z87 mark within])=0:=by simpa using heq
  obtain⟨Do,Fo,D3,Nc⟩:=Z11 Bp;obtain⟨_,h8,_⟩:=Z0i Do;have Ch:=Z0N (Fo (Zv at') (by simp));obtain⟨d,rfl⟩:=Int.eq_ofNat_of_zero_le Ch.1;have Eb:d<=90:=by omega
  obtain⟨B,p',e0,e1,e2,e3,e4,e5,e6,e7,e8,e9,hC⟩:=Ao Bp;subst k0 k1 k2 k3 b4 n4 c4 b5 n5 c5;have D0:n<=8:=by omega
  have Ba:=fun v w'=>Z08 r0 r1 r2 r3 base n cap v D0 w'
  have hat:=fun w' hm' hC'=>Z2Y r0 r1 r2 r3 (.slice base n cap) B n d (2 ^ n - 1) p' (cvS r0 r1 r2 r3 (S.map Ze)) D0 Eb (Z2Z D0) w' hm' hC'
  have HV:Hid (Z4L r0 r1 r2 r3 S d=atF (cvS r0 r1 r2 r3 (S.map Ze)) (2 ^ n - 1) d n):=by
   show _=_;rw[Z4L,Int.toNat_natCast,A1]
  have D7:Hid (Z8F r0 r1 r2 r3 S d mark within=0):=Bp;have Fd:=Ce.ext B3;clear Ao Do Fo D3 Nc heq Bp Ch;generalize (2:Int) ^ n - 1=st at Ba hat HV;generalize atF (cvS r0 r1 r2 r3 (S.map Ze)) st d n=V at hat HV;obtain⟨va,vb⟩:=V;have x0:=Z0 hX 0;have x1:=Z0 hX 1;have x2:=Z0 hX 2;have x3:=Z0 hX 3;have x4:=Z0 hX 4;have x5:=Z0 hX 5;simp only[List.getElem?_toArray,List.getElem?_cons_zero,List.getElem?_cons_succ] at x0 x1 x2 x3 x4 x5;have c0:=Zet x0;have c1:=Zet x1;have c2:=Zet x2;have c3:=Zet x3;have c4:=Zet x4;have c5:=Zet x5;refine Zfn 6 5 12 [0,1,2,3,4] (.cells #[.int .i64 0,.int .i64 0] 48) (by kernel_rfl) rfl (by kernel_rfl) rfl rfl (fun a W=>by simp[go_sem,execOp,Act.eval]) ?_;refine Zfj [0,1,3] (by kernel_rfl) rfl rfl (by kernel_rfl) ?_;simp only[ZeD,List.getElem?_cons_succ,List.getElem?_cons_zero,List.cons_append,List.nil_append]
  repeat (go_big_quiet_step (fail))
  refine wpQuiet_nil ?_;refine Zfr 2 (f:=106) (args:= #[.agg #[.int .i64 r0,.int .i64 r1,.int .i64 r2,.int .i64 r3,.slice base n cap,.slice (some ⟨B,0,none⟩) n n]]) (v:= .int .i64 st) (by kernel_rfl) rfl rfl rfl (by kernel_rfl) rfl (fun W=>by simp[go_sem,execOp,Act.eval]) (fun W _=>Ba _ W) ?_;go_simp;refine Zfr 4 (f:=105) (args:= #[.agg #[.int .i64 r0,.int .i64 r1,.int .i64 r2,.int .i64 r3,.slice base n cap,.slice (some ⟨B,0,none⟩) n n],.int .i64 st,.int .i64 d]) (v:= .agg #[.int .i64 va,.int .i64 vb]) (by kernel_rfl) rfl rfl rfl (by kernel_rfl) rfl (fun W=>by simp[go_sem,execOp,Act.eval]) (fun W hW=>hat W (Fd.ext hW) (hC.ext hW)) ?_;go_simp;refine Zfq (by kernel_rfl) (fun W hW b hA C0 Ac=> ?_);obtain⟨bx,rfl⟩:∃bx,bx=b:=⟨_,rfl⟩;have Am:=hW;clear hW;go_simp;refine Zfp 1 (by kernel_rfl) (fun W hW=> ?_);simp only[List.drop_succ_cons,List.drop_zero];replace Ac:=hW.get Ac;have Bw:=(B3.trans Am).trans hW;have C6:w.heap.size<=bx:=by have h1:=hA;have h2:=B3.size;omega
  have Gz:=set_pair Ac (.int .i64 va) (.int .i64 vb);have K6:=(Bw.setCell ⟨bx,0,none⟩ (.int .i64 va) C6).setCell ⟨bx,1,none⟩ (.int .i64 vb) C6;have g:=Zc Ac;have g0:=g.1;have g1:=g.2.1;have g2:=g.2.2.1;have g3:=g.2.2.2;have hZY:=Zfl (w:=W) (b:=bx) (i:=0) (j:=1) (u:= .int .i64 va) (v:= .int .i64 vb) (by have h1:=Z5 La;omega) (hW.get (Am.get La));have hYY:=Zfl (w:=W) (b:=bx) (i:=0) (j:=1) (u:= .int .i64 va) (v:= .int .i64 vb) (by have h1:=Z5 Mc;omega) (hW.get (Am.get Mc));clear La Mc;clear g Bw B3 hW Am C6 hA C0 Fd Ba hat hX x0 x1 x2 x3 x4 x5 c0 c1 c2 c3 c4 c5 hC;go_wp2_with fail;generalize (W.setCell ⟨bx,0,none⟩ (.int .i64 va)).setCell ⟨bx,1,none⟩ (.int .i64 vb)=Y at*;clear g0 g1 g2 g3 Ac;refine Zfm ?_;have g:=Zc Gz;have g0:=g.1;have g1:=g.2.1;have g2:=g.2.2.1;have g3:=g.2.2.2;have hm:=Z0 hZY 0;have hw:=Z0 hYY 0;simp only[List.getElem?_toArray,List.getElem?_cons_zero,List.getElem?_cons_succ] at hm hw;clear hZY hYY;go_wp2_with (first|(go_at_call 114;refine(Z7i _ _ _ _ _).mono ?_;rintro e w9 ⟨rfl,Bh⟩;have Md:=Zc (Bh.get Gz);have j0:=Md.1;have j1:=Md.2.1;have Ky:bx<w9.heap.size:=Z5 (Bh.get Gz);have hp9:∀(o:Obj)(i:Nat),(w9.alloc o).cell? ⟨bx,i,none⟩=w9.cell? ⟨bx,i,none⟩:=fun o i=>World.cell?_alloc_lt _ _ _ Ky))
  all_goals
   go_ret2;refine⟨?_,(K6.trans Bh).alloc _⟩;rw[Z6c,if_pos D7.out,D7.out,HV.out];simp at*;rw[hitV]
   first|rw[if_pos (by omega)]|(rw[if_neg (by omega)];first|rw[if_pos (by omega)]|rw[if_neg (by omega)])
theorem Zg5(a b c d:Int)(w:World):Calls prog 46 #[.agg #[.int .i64 a,.int .i64 b],.agg #[.int .i64 c,.int .i64 d]] w fun e w'=>e= .returned (.agg #[.int .i64 (max a c),.int .i64 (min b d)])/\Ext w w':=by
 go_enter func46,ntmps46;go_wp2
 all_goals
  refine bodyPost_ret (v:= .agg #[.int .i64 (max a c),.int .i64 (min b d)]) ((Z07 rfl _ _ _).trans ?_) rfl ⟨rfl,(((Ext.rfl' w).alloc _).alloc _).alloc _⟩;simp[go_sem];omega
theorem ZfZ(r0 r1 r2 r3:Int)(s:Rs)(w:World):Calls prog 120 #[.agg #[.int .i64 r0,.int .i64 r1,.int .i64 r2,.int .i64 r3],.agg #[.int .i64 s.a,.int .i64 s.m,.int .i64 s.M,.int .i64 s.wi,.int .i64 s.li]] w fun e w'=>e= .returned (.agg #[.int .i64 (Z68 r2 r3 s).1,.int .i64 (Z68 r2 r3 s).2])/\Ext w w':=by
 go_enter func120,ntmps120;go_wp2;refine bodyPost_ret (v:= .agg #[.int .i64 (Z68 r2 r3 s).1,.int .i64 (Z68 r2 r3 s).2]) ((Z07 rfl _ _ _).trans ?_) rfl ⟨rfl,(((Ext.rfl' w).alloc _).alloc _).alloc _⟩;simp[go_sem,Z68,lo,hi]
theorem ZfX(r0 r1 r2 r3 d:Int)(s:Rs)(w:World):Calls prog 147 #[.agg #[.int .i64 r0,.int .i64 r1,.int .i64 r2,.int .i64 r3],.agg #[.int .i64 s.a,.int .i64 s.m,.int .i64 s.M,.int .i64 s.wi,.int .i64 s.li],.int .i64 d] w fun e w'=>e= .returned (.agg #[.int .i64 (Zdx r0 r1 r2 r3 s d).1,.int .i64 (Zdx r0 r1 r2 r3 s d).2])/\Ext w w':=by
 have hw:=fun W=>ZfZ r0 r1 r2 r3 s W
 have Bo:=(((Ext.rfl' w).alloc (.cells #[.int .i64 r0,.int .i64 r1,.int .i64 r2,.int .i64 r3] 67)).alloc (.cells #[.int .i64 s.a,.int .i64 s.m,.int .i64 s.M,.int .i64 s.wi,.int .i64 s.li] 80)).alloc (.cells #[.int .i64 0,.int .i64 0] 48);have b0:(((w.alloc (.cells #[.int .i64 r0,.int .i64 r1,.int .i64 r2,.int .i64 r3] 67)).alloc (.cells #[.int .i64 s.a,.int .i64 s.m,.int .i64 s.M,.int .i64 s.wi,.int .i64 s.li] 80)).alloc (.cells #[.int .i64 0,.int .i64 0] 48)).heap[w.heap.size]? =some (.cells #[.int .i64 r0,.int .i64 r1,.int .i64 r2,.int .i64 r3] 67):=by
  simp only[Z3,Z2];rw[if_neg (by omega),if_neg (by omega),if_pos trivial]
 have b1:(((w.alloc (.cells #[.int .i64 r0,.int .i64 r1,.int .i64 r2,.int .i64 r3] 67)).alloc (.cells #[.int .i64 s.a,.int .i64 s.m,.int .i64 s.M,.int .i64 s.wi,.int .i64 s.li] 80)).alloc (.cells #[.int .i64 0,.int .i64 0] 48)).heap[w.heap.size+1]? =some (.cells #[.int .i64 s.a,.int .i64 s.m,.int .i64 s.M,.int .i64 s.wi,.int .i64 s.li] 80):=by
  simp only[Z3,Z2];rw[if_neg (by omega),if_pos trivial]
 have b2:(((w.alloc (.cells #[.int .i64 r0,.int .i64 r1,.int .i64 r2,.int .i64 r3] 67)).alloc (.cells #[.int .i64 s.a,.int .i64 s.m,.int .i64 s.M,.int .i64 s.wi,.int .i64 s.li] 80)).alloc (.cells #[.int .i64 0,.int .i64 0] 48)).heap[w.heap.size+1+1]? =some (.cells #[.int .i64 0,.int .i64 0] 48):=by
  simp only[Z3,Z2];rw[if_pos trivial]
 have hz:Hid (Zdx r0 r1 r2 r3 s d=if s.a<=d then(wrap64 ((Z68 r2 r3 s).1+wrap64 (r0*wrap64 (d - s.a))),wrap64 ((Z68 r2 r3 s).2+wrap64 (r1*wrap64 (d - s.a))))
  else(wrap64 ((Z68 r2 r3 s).1 - wrap64 (r1*wrap64 (s.a - d))),wrap64 ((Z68 r2 r3 s).2 - wrap64 (r0*wrap64 (s.a - d))))):=rfl
 generalize Z68 r2 r3 s=x at hw hz;obtain⟨xa,xb⟩:=x;generalize Zdx r0 r1 r2 r3 s d=F at hz⊢;go_enter func147,ntmps147
 go_wp2_with (first
  |(go_at_call 120;refine(hw _).mono ?_;rintro e w2 ⟨rfl,A7⟩
    have Ah:=Bo.trans A7;replace b0:=A7.get b0;replace b1:=A7.get b1;replace b2:=A7.get b2;have l0:=Z5 b0;have l1:=Z5 b1;have l2:=Z5 b2;have p0:=Z0 b0 0;have p1:=Z0 b0 1;have p2:=Z0 b0 2;have p3:=Z0 b0 3;have q0:=Z0 b1 0;have z:=Zc b2;have z0:=z.1;have z1:=z.2.1;have z2:=z.2.2.1;have z3:=z.2.2.2;simp only[List.getElem?_toArray,List.getElem?_cons_zero,List.getElem?_cons_succ] at p0 p1 p2 p3 q0;clear z Bo A7 hw))
 all_goals
  have hF:=hz.out
  first|rw[if_pos (by omega)] at hF|rw[if_neg (by omega)] at hF
  subst hF;have h2:w.heap.size<=w.heap.size+1+1:=by omega
  refine bodyPost_ret (v:= .agg #[.int .i64 _,.int .i64 _]) ((Z07 rfl _ _ _).trans ?_) rfl ⟨rfl,((Ah.setCell _ _ h2).setCell _ _ h2).alloc _⟩;have hq:=fun u v o=>((Ext.rfl' ((w2.setCell ⟨w.heap.size+1+1,0,none⟩ u).setCell ⟨w.heap.size+1+1,1,none⟩ v)).alloc o).cellS (Zc (set_pair b2 u v)).1
  have T6:=fun u v o=>((Ext.rfl' ((w2.setCell ⟨w.heap.size+1+1,0,none⟩ u).setCell ⟨w.heap.size+1+1,1,none⟩ v)).alloc o).cellS (Zc (set_pair b2 u v)).2.1
  simp[go_sem,hq,T6]
theorem Zg9(n:Nat)(w:World)(hn:n<=1000):Calls prog 44 #[.int .i64 n] w fun e w'=>∃x,e= .returned x/\OwnI w.heap.size w' x (upL n)/\Ext w w':=by
 obtain⟨N,hN⟩:∃N,N=w.heap.size:=⟨_,rfl⟩;rw[<-hN];go_enter func44,ntmps44;go_wp2;go_loopw [3,4] (fun v3 v4 wr=>∃i:Nat,i<=n/\v4= .int .i64 i/\OwnI N wr v3 (upL i)/\Ext w wr) (fun _ v4 _=>n - (intOf v4).toNat)
 case atStart=>exact⟨0,Nat.zero_le _,rfl,World.ownsRow_nil _ _ _ _,Ext.rfl' w⟩
 case round=>
  rename_i v3 _;obtain⟨i,hi,rfl,Ai,hE⟩:=hrel;by_cases h0:i=n
  ·subst h0;go_wp2;go_ret;exact⟨_,rfl,Ai,hE⟩
  ·have A3:i<n:=by omega
   have Dg:(i:Int)<(n:Int):=by omega
   have hs:=hE.size;have H3:Hid (upL (i+1)=upL i++[(i:Int)]):=by show _=_;simp[upL,List.range_succ]
   obtain⟨l,hl⟩:∃l,l=upL i:=⟨_,rfl⟩;have Rp:l.length=i:=by rw[hl];simp[upL]
   rw[<-hl] at Ai H3;clear hl
   go_wp2_with (
    at_builtin
    refine wpList_append_own _ rfl _ _ _ rfl N 3 Tryz.t3 (.int .i64 0) 1 8 u27 i3 t3z t3s t3b rfl (by omega) _ _ _ rfl (Ai.alloc _) ⟨wr.heap.size,0,none⟩ 1 1 [.int .i64 i] rfl rfl (Z1N _ _ _) (by intro u hu;simp at hu;subst hu;rfl) (by(try simp[maxLen]);omega) (by(try simp);omega) (by(try simp only[Z2]);omega) ?_;intro v' w3 Aq Ad _;have Ah:Ext w w3:=(hE.alloc _).grown Ad (fun k hk=>by have:=(Ai.lt k hk).1;omega))
   go_roundw
   case rel=>exact⟨i+1,by omega,by push_cast;rfl,by rw[H3.out];simpa[OwnI] using Aq,Ah⟩
   case measure=>simp[intOf];omega
theorem Zg0{r0 r1 r2 r3:Int}{S:List Rs}{d:Int}{t:List Int}{j:Int}(h:t≠[]):Z57 r0 r1 r2 r3 S d (t++[j])=ZaA (Z57 r0 r1 r2 r3 S d t) (fromS r0 r1 r2 r3 S d j):=by
 cases t with
 |nil=>exact absurd rfl h
 |cons i t=>rw[List.cons_append,Z57,Z57,List.foldl_append];rfl
theorem Zg1(r0 r1 r2 r3:Int)(base:Option Addr)(n cap:Nat)(S:List Rs)(bl:Option Addr)(k cl:Nat)(l:List Int)(d:Int)(w:World)(A1:S.length=n)(hn:n<=20)(hk:l.length=k)(T7:k<=20)(Pq:0<k)(As:∀j∈l,0<=j/\j<(n:Int))(hS:RawS w base S)(hl:RawI w bl l):
 Calls prog 102 #[.agg #[.int .i64 r0,.int .i64 r1,.int .i64 r2,.int .i64 r3,.slice base n cap],.slice bl k cl,.int .i64 d] w fun e w'=>e= .returned (.agg #[.int .i64 (Z57 r0 r1 r2 r3 S d l).1,.int .i64 (Z57 r0 r1 r2 r3 S d l).2])/\Ext w w':=by
 obtain⟨j,hj⟩:∃j,l[0]? =some j:=⟨_,List.getElem?_eq_getElem (by omega)⟩;have Hz:=As j (List.mem_of_getElem? hj);obtain⟨J,rfl⟩:=Int.eq_ofNat_of_zero_le Hz.1;have hJn:J<n:=by omega
 have Pj:(J:Int)<(n:Int):=by omega
 obtain⟨s,hs⟩:∃s,S[J]? =some s:=⟨_,List.getElem?_eq_getElem (by omega)⟩;obtain⟨B0,O0,rfl,hB0,C5⟩:=hl 0 _ hj;obtain⟨BS,OS,rfl,Uy,sh⟩:=hS J s hs;have HF:Hid (Z57 r0 r1 r2 r3 S d (l.take 1)=Zdx r0 r1 r2 r3 s d):=by
  show _=_;cases l with
  |nil=>simp at hj
  |cons x t=>
   simp at hj;subst hj;simp[Z57,fromS,hs]
 have If:=fun W=>ZfX r0 r1 r2 r3 d s W
 obtain⟨⟨fa,fb⟩,HF0⟩:∃v,Zdx r0 r1 r2 r3 s d=v:=⟨_,rfl⟩;rw[HF0] at If;have H1:Hid (Z57 r0 r1 r2 r3 S d (l.take 1)=(fa,fb)):=HF.out.trans HF0;replace A1:Hid (S.length=n):=A1;replace hk:Hid (l.length=k):=hk;replace As:Hid (∀j∈l,0<=j/\j<(n:Int)):=As;have Ds:Hid (RawS w (some ⟨BS,OS,none⟩) S):=hS;have Ex:Hid (RawI w (some ⟨B0,O0,none⟩) l):=hl;clear hj hs HF0 hS hl Hz;have Ab:=((Ext.rfl' w).alloc (.cells #[.int .i64 r0,.int .i64 r1,.int .i64 r2,.int .i64 r3,.slice (some ⟨BS,OS,none⟩) n cap] 70)).alloc (.cells #[.int .i64 0,.int .i64 0] 48);have hb:((w.alloc (.cells #[.int .i64 r0,.int .i64 r1,.int .i64 r2,.int .i64 r3,.slice (some ⟨BS,OS,none⟩) n cap] 70)).alloc (.cells #[.int .i64 0,.int .i64 0] 48)).heap[w.heap.size]? =some (.cells #[.int .i64 r0,.int .i64 r1,.int .i64 r2,.int .i64 r3,.slice (some ⟨BS,OS,none⟩) n cap] 70):=by
  simp only[Z3,Z2];rw[if_neg (by omega),if_pos trivial]
 have hz:((w.alloc (.cells #[.int .i64 r0,.int .i64 r1,.int .i64 r2,.int .i64 r3,.slice (some ⟨BS,OS,none⟩) n cap] 70)).alloc (.cells #[.int .i64 0,.int .i64 0] 48)).heap[w.heap.size+1]? =some (.cells #[.int .i64 0,.int .i64 0] 48):=by
  simp only[Z3,Z2];rw[if_pos trivial]
 go_enter func102,ntmps102;go_wp2_with fail;generalize World.alloc _ _=w1 at Ab hb hz⊢;replace C5:w1.cell? ⟨B0,O0+0,none⟩=some (.int .i64 J):=Ab.cellS C5;rw[Nat.add_zero] at C5;have sh:ShotAt w1 BS (OS+J*5) s.a s.m s.M s.wi s.li:=⟨Ab.cellS sh.c0,Ab.cellS sh.c1,Ab.cellS sh.c2,Ab.cellS sh.c3,Ab.cellS sh.c4⟩;have q0:=Z0 hb 0;have q1:=Z0 hb 1;have q2:=Z0 hb 2;have q3:=Z0 hb 3;have q4:=Z0 hb 4;simp only[List.getElem?_toArray,List.getElem?_cons_zero,List.getElem?_cons_succ] at q0 q1 q2 q3 q4;have g0:=Zet q0;have g1:=Zet q1;have g2:=Zet q2;have g3:=Zet q3;have g4:=Zet q4;have k0:=Zet sh.c0;have k1:=Zet sh.c1;have k2:=Zet sh.c2;have k3:=Zet sh.c3;have k4:=Zet sh.c4;have kc:=Zet C5;refine Zfn 12 11 7 [0,1,2,3,4,5,6,7,8,9,10] (.cells #[.int .i64 0,.int .i64 0] 48) (by kernel_rfl) rfl (by kernel_rfl) rfl rfl (fun a W=>by simp[go_sem,execOp,Act.eval]) ?_;refine Zfj [0,1,2,3,4,5,6,7,8,9] (by kernel_rfl) rfl rfl (by kernel_rfl) ?_;simp only[ZeD,List.getElem?_cons_succ,List.getElem?_cons_zero,List.cons_append,List.nil_append]
 repeat (go_big_quiet_step (fail))
 refine wpQuiet_nil ?_;refine Zfr 10 (f:=147) (args:= #[.agg #[.int .i64 r0,.int .i64 r1,.int .i64 r2,.int .i64 r3],.agg #[.int .i64 s.a,.int .i64 s.m,.int .i64 s.M,.int .i64 s.wi,.int .i64 s.li],.int .i64 d]) (v:= .agg #[.int .i64 fa,.int .i64 fb]) (by kernel_rfl) rfl rfl rfl (by kernel_rfl) rfl (fun W=>by simp[go_sem,execOp,Act.eval]) (fun W _=>If W) ?_;go_simp;refine Zfq (by kernel_rfl) (fun W hW b hA C0 Ac=> ?_);obtain⟨bx,rfl⟩:∃bx,bx=b:=⟨_,rfl⟩;have Am:=hW;clear hW;go_simp;refine Zfp 1 (by kernel_rfl) (fun W hW=> ?_);simp only[List.drop_succ_cons,List.drop_zero];replace Ac:=hW.get Ac;have B3:=(Ab.trans Am).trans hW;have C6:w.heap.size<=bx:=by have h1:=hA;have h2:=Ab.size;omega
 have Kq:=Z5 hb;have Hx:=Z5 hz;have hP:=set_pair Ac (.int .i64 fa) (.int .i64 fb);have hC:=Zfl (i:=0) (j:=1) (u:= .int .i64 fa) (v:= .int .i64 fb) (show w.heap.size≠bx by omega) (hW.get (Am.get hb));have hZ:=Zfl (i:=0) (j:=1) (u:= .int .i64 fa) (v:= .int .i64 fb) (show w.heap.size+1≠bx by omega) (hW.get (Am.get hz));have Og:=(B3.setCell ⟨bx,0,none⟩ (.int .i64 fa) C6).setCell ⟨bx,1,none⟩ (.int .i64 fb) C6;have Oh:w.heap.size+1≠bx:=by omega
 have Y7:w.heap.size≠bx:=by omega
 have g:=Zc Ac;have g0:=g.1;have g1:=g.2.1;have g2:=g.2.2.1;have g3:=g.2.2.2;clear g B3 Ab Am hW hA C0 hb hz Kq Hx q0 q1 q2 q3 q4 k0 k1 k2 k3 k4 kc sh C5;go_wp2_with fail;generalize (W.setCell ⟨bx,0,none⟩ (.int .i64 fa)).setCell ⟨bx,1,none⟩ (.int .i64 fb)=Y at*;clear g0 g1 g2 g3 Ac;refine Zfm ?_;go_wp2_with fail;go_loopw [8] (fun v wr=>∃i:Nat,1<=i/\i<=k/\v= .int .i64 i/\Ext w wr/\wr.heap[w.heap.size]? =some (.cells #[.int .i64 r0,.int .i64 r1,.int .i64 r2,.int .i64 r3,.slice (some ⟨BS,OS,none⟩) n cap] 70)/\wr.heap[w.heap.size+1]? =some (.cells #[.int .i64 0,.int .i64 0] 48)/\∃pa pb,wr.heap[bx]? =some (.cells #[.int .i64 pa,.int .i64 pb] 48)/\Hid (Z57 r0 r1 r2 r3 S d (l.take i)=(pa,pb))) (fun v _=>k - (intOf v).toNat)
 case atStart=>exact⟨1,Nat.le_refl _,by omega,rfl,Og,hC,hZ,fa,fb,hP,H1⟩
 case round=>
  obtain⟨i,N9,hi,rfl,hE,hb,hz,pa,pb,hp,HP⟩:=hrel;clear Og hC hZ hP H1 HF;have Oh:w.heap.size+1≠bx:=Oh;by_cases J4:i=k
  ·subst J4;have HR:Hid (Z57 r0 r1 r2 r3 S d l=(pa,pb)):=by show _=_;rw[<-HP.out,List.take_of_length_le (by have:=hk.out;omega)]
   have y:=Zc hp;have y0:=y.1;have y1:=y.2.1;have z:=Zc hz;have z0:=z.1;have z1:=z.2.1;have z2:=z.2.2.1;have z3:=z.2.2.2;clear y z HP As Ds Ex;go_wp2;have h2:w.heap.size<=w.heap.size+1:=by omega
   refine bodyPost_ret (v:= .agg #[.int .i64 (Z57 r0 r1 r2 r3 S d l).1,.int .i64 (Z57 r0 r1 r2 r3 S d l).2]) ((Z07 rfl _ _ _).trans ?_) rfl ⟨rfl,(hE.setCell _ _ h2).setCell _ _ h2⟩;have hq:=Zc (set_pair hz (.int .i64 pa) (.int .i64 pb));rw[HR.out];simp[go_sem,hq.1,hq.2.1]
  ·have A3:i<k:=by omega
   have Dg:(i:Int)<(k:Int):=by omega
   obtain⟨j,hj⟩:∃j,l[i]? =some j:=⟨_,List.getElem?_eq_getElem (by have:=hk.out;omega)⟩;have Hz:=As.out j (List.mem_of_getElem? hj);obtain⟨J,rfl⟩:=Int.eq_ofNat_of_zero_le Hz.1;have hJn:J<n:=by omega
   have Pj:(J:Int)<(n:Int):=by omega
   obtain⟨s,hs⟩:∃s,S[J]? =some s:=⟨_,List.getElem?_eq_getElem (by have:=A1.out;omega)⟩;have HN:Hid (Z57 r0 r1 r2 r3 S d (l.take (i+1))=ZaA (pa,pb) (Zdx r0 r1 r2 r3 s d)):=by
    show _=_;rw[Z0G hj,Zg0 (by rw[ne_eq,List.take_eq_nil_iff];rintro(h|h);omega;subst h;simp at hj),HP.out,fromS,Int.toNat_natCast,hs]
   obtain⟨bb,ob,Y8,B4,hcj⟩:=Ex.out i _ hj;obtain⟨bc,oc,Ya,Al,sh⟩:=Ds.out J s hs;obtain⟨rfl,rfl⟩:B0=bb/\O0=ob:=by simpa using Y8
   obtain⟨rfl,rfl⟩:BS=bc/\OS=oc:=by simpa using Ya
   have If:=fun W=>ZfX r0 r1 r2 r3 d s W
   obtain⟨⟨fa,fb⟩,HF0⟩:∃v,Zdx r0 r1 r2 r3 s d=v:=⟨_,rfl⟩;rw[HF0] at HN If;clear HF0 hj hs HP;have hc:=hE.cellS hcj;have s0:=hE.cellS sh.c0;have s1:=hE.cellS sh.c1;have s2:=hE.cellS sh.c2;have s3:=hE.cellS sh.c3;have s4:=hE.cellS sh.c4;have q0:=Z0 hb 0;have q1:=Z0 hb 1;have q2:=Z0 hb 2;have q3:=Z0 hb 3;have q4:=Z0 hb 4;simp only[List.getElem?_toArray,List.getElem?_cons_zero,List.getElem?_cons_succ] at q0 q1 q2 q3 q4;have y:=Zc hp;have y0:=y.1;have y1:=y.2.1;have g0:=Zet q0;have g1:=Zet q1;have g2:=Zet q2;have g3:=Zet q3;have g4:=Zet q4;have kc:=Zet hc;have k0:=Zet s0;have k1:=Zet s1;have k2:=Zet s2;have k3:=Zet s3;have k4:=Zet s4;have ky0:=Zet y0;have ky1:=Zet y1;clear y sh hcj;go_wp2_with fail;refine ZeG 14 (by kernel_rfl) ?_;refine ZeB [0,1,2,3,4,5,6,7,8,9,10,11] (by kernel_rfl) (by kernel_rfl) ?_;simp only[ZeD,List.getElem?_cons_succ,List.getElem?_cons_zero,List.cons_append,List.nil_append]
   repeat (go_big_quiet_step (fail))
   refine wpQuiet_nil ?_;refine ZeX 12 (f:=147) (args:= #[.agg #[.int .i64 r0,.int .i64 r1,.int .i64 r2,.int .i64 r3],.agg #[.int .i64 s.a,.int .i64 s.m,.int .i64 s.M,.int .i64 s.wi,.int .i64 s.li],.int .i64 d]) (v:= .agg #[.int .i64 fa,.int .i64 fb]) (by kernel_rfl) rfl (by kernel_rfl) rfl (fun W=>by simp[go_sem,execOp,Act.eval]) (fun W _=>If W) ?_;go_simp;refine ZeX 13 (f:=46) (args:= #[.agg #[.int .i64 pa,.int .i64 pb],.agg #[.int .i64 fa,.int .i64 fb]]) (v:= .agg #[.int .i64 (max pa fa),.int .i64 (min pb fb)]) (by kernel_rfl) rfl (by kernel_rfl) rfl (fun W=>by simp[go_sem,execOp,Act.eval]) (fun W _=>Zg5 pa pb fa fb W) ?_;go_simp;refine Zfp 1 (by kernel_rfl) (fun W hW=> ?_);simp only[List.drop_succ_cons,List.drop_zero];have Ah:=hE.trans hW;replace hb:=hW.get hb;replace hz:=hW.get hz;replace hp:=hW.get hp;have Kq:=Z5 hb;have hP:=set_pair hp (.int .i64 (max pa fa)) (.int .i64 (min pb fb));have hC:=Zfl (i:=0) (j:=1) (u:= .int .i64 (max pa fa)) (v:= .int .i64 (min pb fb)) Y7 hb;have hZ:=Zfl (i:=0) (j:=1) (u:= .int .i64 (max pa fa)) (v:= .int .i64 (min pb fb)) Oh hz;have Og:=(Ah.setCell ⟨bx,0,none⟩ (.int .i64 (max pa fa)) C6).setCell ⟨bx,1,none⟩ (.int .i64 (min pb fb)) C6;have g:=Zc hp;have p0:=g.1;have p1:=g.2.1;have p2:=g.2.2.1;have p3:=g.2.2.2
   clear g q0 q1 q2 q3 q4 g0 g1 g2 g3 g4 kc k0 k1 k2 k3 k4 ky0 ky1 s0 s1 s2 s3 s4 hc y0 y1 Ah hE hW hb hz;go_wp2_with fail;refine Zfm ?_;go_wp2_with fail;exact⟨⟨i+1,by omega,by omega,by push_cast;rfl,Og,hC,hZ,_,_,hP,HN⟩,by simp[intOf];omega⟩
def Zg6(r0 r1 r2 r3:Int)(S:List Rs)(l:List Int)(i:Int):Bool:=match S[i.toNat]? with
 |some s=>decide ((Z57 r0 r1 r2 r3 S s.a l).1<=(Z57 r0 r1 r2 r3 S s.a l).2)
 |none=>false
theorem Zg2(r0 r1 r2 r3:Int)(base:Option Addr)(n cap:Nat)(S:List Rs)(bl:Option Addr)(k cl:Nat)(l:List Int)(w:World)(A1:S.length=n)(hn:n<=20)(hk:l.length=k)(T7:k<=20)(As:∀j∈l,0<=j/\j<(n:Int))(hS:RawS w base S)(hl:RawI w bl l):
 Calls prog 43 #[.agg #[.int .i64 r0,.int .i64 r1,.int .i64 r2,.int .i64 r3,.slice base n cap],.slice bl k cl] w fun e w'=>e= .returned (.bool (Z20 r0 r1 r2 r3 S l))/\Ext w w':=by
 have H0:Hid (Z20 r0 r1 r2 r3 S l=(l.drop 0).all (Zg6 r0 r1 r2 r3 S l)):=rfl;have Bo:=(Ext.rfl' w).alloc (.cells #[.int .i64 r0,.int .i64 r1,.int .i64 r2,.int .i64 r3,.slice base n cap] 70);have Gd:(w.alloc (.cells #[.int .i64 r0,.int .i64 r1,.int .i64 r2,.int .i64 r3,.slice base n cap] 70)).heap[w.heap.size]? =some (.cells #[.int .i64 r0,.int .i64 r1,.int .i64 r2,.int .i64 r3,.slice base n cap] 70):=by rw[Z3,if_pos rfl]
 have Jh:=fun(Pq:0<k) d W (hW:Ext w W)=>Zg1 r0 r1 r2 r3 base n cap S bl k cl l d W A1 hn hk T7 Pq As (hS.ext hW) (hl.ext hW)
 replace A1:Hid (S.length=n):=A1;replace hk:Hid (l.length=k):=hk;replace As:Hid (∀j∈l,0<=j/\j<(n:Int)):=As;have Ds:Hid (RawS w base S):=hS;have Ex:Hid (RawI w bl l):=hl;clear hS hl;go_enter func43,ntmps43;go_wp2_with fail;go_loopw [5] (fun v wr=>∃i:Nat,i<=k/\v= .int .i64 i/\Ext w wr/\wr.heap[w.heap.size]? =some (.cells #[.int .i64 r0,.int .i64 r1,.int .i64 r2,.int .i64 r3,.slice base n cap] 70)/\Hid (Z20 r0 r1 r2 r3 S l=(l.drop i).all (Zg6 r0 r1 r2 r3 S l))) (fun v _=>k - (intOf v).toNat)
 case atStart=>exact⟨0,Nat.zero_le _,rfl,Bo,Gd,H0⟩
 case round=>
  clear Bo Gd H0;obtain⟨i,hi,rfl,hE,hb,HP⟩:=hrel;by_cases J4:i=k
  ·subst J4;have HR:Hid (Z20 r0 r1 r2 r3 S l=true):=by show _=_;rw[HP.out,List.drop_of_length_le (by have:=hk.out;omega)];rfl
   clear HP Jh As Ds Ex;go_wp2;go_ret;exact⟨ZP (a:=true) HR.out.symm,hE⟩
  ·have A3:i<k:=by omega
   have Dg:(i:Int)<(k:Int):=by omega
   obtain⟨j,hj⟩:∃j,l[i]? =some j:=⟨_,List.getElem?_eq_getElem (by have:=hk.out;omega)⟩;have Hz:=As.out j (List.mem_of_getElem? hj);obtain⟨J,rfl⟩:=Int.eq_ofNat_of_zero_le Hz.1;have hJn:J<n:=by omega
   have Pj:(J:Int)<(n:Int):=by omega
   obtain⟨s,hs⟩:∃s,S[J]? =some s:=⟨_,List.getElem?_eq_getElem (by have:=A1.out;omega)⟩;obtain⟨B0,O0,rfl,hB0,C5⟩:=Ex.out i _ hj;obtain⟨BS,OS,rfl,Uy,sh⟩:=Ds.out J s hs;have Fh:=Jh (by omega) s.a;have HN:Hid (Z20 r0 r1 r2 r3 S l=(decide ((Z57 r0 r1 r2 r3 S s.a l).1<=(Z57 r0 r1 r2 r3 S s.a l).2)&&(l.drop (i+1)).all (Zg6 r0 r1 r2 r3 S l))):=by
    show _=_;rw[HP.out,Z0b hj,List.all_cons,Zg6,Int.toNat_natCast,hs]
   obtain⟨⟨pa,pb⟩,HF0⟩:∃v,Z57 r0 r1 r2 r3 S s.a l=v:=⟨_,rfl⟩;rw[HF0] at HN Fh;have hc:=hE.cellS C5;have s0:=hE.cellS sh.c0;clear HF0 hj hs HP Jh sh C5 Hz As Ds Ex;have q0:=Z0 hb 0;have q1:=Z0 hb 1;have q2:=Z0 hb 2;have q3:=Z0 hb 3;have q4:=Z0 hb 4;simp only[List.getElem?_toArray,List.getElem?_cons_zero,List.getElem?_cons_succ] at q0 q1 q2 q3 q4;have g0:=Zet q0;have g1:=Zet q1;have g2:=Zet q2;have g3:=Zet q3;have g4:=Zet q4;have kc:=Zet hc;have ks:=Zet s0;go_wp2_with fail;refine Zfn 13 12 6 [0,1,2,3,4,5,6,7,8,9,10,11] (.cells #[.int .i64 0,.int .i64 0] 48) (by kernel_rfl) rfl (by kernel_rfl) rfl rfl (fun a W=>by simp[go_sem,execOp,Act.eval]) ?_;refine Zfj [0,1,2,3,4,5,6,7,8,9,10] (by kernel_rfl) rfl rfl (by kernel_rfl) ?_;simp only[ZeD,List.getElem?_cons_succ,List.getElem?_cons_zero,List.cons_append,List.nil_append]
   repeat (go_big_quiet_step (fail))
   refine wpQuiet_nil ?_;refine Zfr 11 (f:=102) (args:= #[.agg #[.int .i64 r0,.int .i64 r1,.int .i64 r2,.int .i64 r3,.slice (some ⟨BS,OS,none⟩) n cap],.slice (some ⟨B0,O0,none⟩) k cl,.int .i64 s.a]) (v:= .agg #[.int .i64 pa,.int .i64 pb]) (by kernel_rfl) rfl rfl rfl (by kernel_rfl) rfl (fun W=>by simp[go_sem,execOp,Act.eval]) (fun W hW=>Fh W (hE.trans hW)) ?_;go_simp;refine Zfq (by kernel_rfl) (fun W hW b hA C0 Ac=> ?_);obtain⟨bx,rfl⟩:∃bx,bx=b:=⟨_,rfl⟩;have Am:=hW;clear hW;go_simp;refine Zfp 1 (by kernel_rfl) (fun W hW=> ?_);simp only[List.drop_succ_cons,List.drop_zero];replace Ac:=hW.get Ac;have B3:=(hE.trans Am).trans hW;have C6:w.heap.size<=bx:=by have h1:=hA;have h2:=hE.size;omega
   have Kq:=Z5 hb;have hP:=set_pair Ac (.int .i64 pa) (.int .i64 pb);have hC:=Zfl (i:=0) (j:=1) (u:= .int .i64 pa) (v:= .int .i64 pb) (show w.heap.size≠bx by omega) (hW.get (Am.get hb));have Og:=(B3.setCell ⟨bx,0,none⟩ (.int .i64 pa) C6).setCell ⟨bx,1,none⟩ (.int .i64 pb) C6;have g:=Zc Ac;have p0:=g.1;have p1:=g.2.1;have p2:=g.2.2.1;have p3:=g.2.2.2;clear g B3 hE Am hW hA C0 hb Kq C6 q0 q1 q2 q3 q4 g0 g1 g2 g3 g4 ks kc s0 hc Fh;go_wp2_with fail;generalize (W.setCell ⟨bx,0,none⟩ (.int .i64 pa)).setCell ⟨bx,1,none⟩ (.int .i64 pb)=Y at*;clear p0 p1 p2 p3 Ac;refine Zfm ?_;have y:=Zc hP;have y0:=y.1;have y1:=y.2.1;clear y;by_cases Kh:pb<pa
   ·have B7:decide (pa<=pb)=false:=(by simp;omega);go_wp2_with fail;go_ret;exact⟨ZP (a:=false) (by rw[HN.out,B7];rfl),Og⟩
   ·have B7:decide (pa<=pb)=true:=(by simp;omega);have HN2:Hid (Z20 r0 r1 r2 r3 S l=(l.drop (i+1)).all (Zg6 r0 r1 r2 r3 S l)):=(by show _=_;rw[HN.out,B7];rfl);clear B7 HN;go_wp2_with fail;exact⟨⟨i+1,by omega,by push_cast;rfl,Og,hC,HN2⟩,by simp[intOf];omega⟩
theorem Zgh(s:Rs):okS s=(inR s.a 0 90&&decide (0<=s.m/\s.m<=s.M/\s.M<=99999)&&inR s.wi 0 9&&inR s.li 0 9):=rfl
theorem Zga(r0 r1 r2 r3:Int):Z5y r0 r1 r2 r3=if inR r0 0 999&&inR r1 0 999&&inR r2 0 999&&inR r3 0 999&&decide (r0<=r1) then 0 else 1:=rfl
theorem ZfQ(r0 r1 r2 r3:Int)(base:Option Addr)(n cap:Nat)(S:List Rs)(w:World)(A1:S.length=n)(hS:RawS w base S):
 Calls prog 63 #[.agg #[.int .i64 r0,.int .i64 r1,.int .i64 r2,.int .i64 r3,.slice base n cap]] w fun e w'=>e= .returned (.int .i64 (ZC r0 r1 r2 r3 S))/\Ext w w':=by
 have H0:Hid (ZC r0 r1 r2 r3 S=if inR r0 0 999&&inR r1 0 999&&inR r2 0 999&&inR r3 0 999&&decide (r0<=r1) then(if 8<n then 2 else if(S.drop 0).all okS then 0 else 1) else 1):=by
  show _=_;rw[ZC,firstV,Zga];by_cases h:(inR r0 0 999&&inR r1 0 999&&inR r2 0 999&&inR r3 0 999&&decide (r0<=r1))=true
  ·rw[if_pos h,if_pos h,if_pos rfl,firstV,Z23,A1];by_cases h8:8<n
   ·simp[h8]
   ·rw[if_neg h8,List.drop_zero];by_cases ha:S.all okS=true
    ·simp[h8,ha,firstV]
    ·simp[h8,ha]
  ·rw[if_neg h,if_neg h,if_neg (by decide)]
 have E7:=fun W=>Zgc r0 0 999 W;have Di:=fun W=>Zgc r1 0 999 W;have D6:=fun W=>Zgc r2 0 999 W;have El:=fun W=>Zgc r3 0 999 W
 generalize inR r0 0 999=b0 at*;generalize inR r1 0 999=b1 at*;generalize inR r2 0 999=b2 at*;generalize inR r3 0 999=b3 at*;have Bo:=((Ext.rfl' w).alloc (.cells #[.int .i64 r0,.int .i64 r1,.int .i64 r2,.int .i64 r3,.slice base n cap] 70)).alloc (.cells #[.int .i64 r0,.int .i64 r1,.int .i64 r2,.int .i64 r3] 67);have Gd:((w.alloc (.cells #[.int .i64 r0,.int .i64 r1,.int .i64 r2,.int .i64 r3,.slice base n cap] 70)).alloc (.cells #[.int .i64 r0,.int .i64 r1,.int .i64 r2,.int .i64 r3] 67)).heap[w.heap.size]? =some (.cells #[.int .i64 r0,.int .i64 r1,.int .i64 r2,.int .i64 r3,.slice base n cap] 70):=by
  simp only[Z3,Z2];rw[if_neg (by omega),if_pos trivial]
 replace A1:Hid (S.length=n):=A1;have Ds:Hid (RawS w base S):=hS;clear hS;cases b0 with
 |false=>(
   have H1:Hid (ZC r0 r1 r2 r3 S=1):=by show _=_;rw[H0.out];simp
   clear H0;go_enter func63,ntmps63;go_wp2_with (first|(go_at_call 93;(with_reducible refine(E7 _).mono ?_);rintro e w2 ⟨rfl,rfl⟩)|(go_at_call 93;(with_reducible refine(Di _).mono ?_);rintro e w2 ⟨rfl,rfl⟩)|(go_at_call 93;(with_reducible refine(D6 _).mono ?_);rintro e w2 ⟨rfl,rfl⟩)|(go_at_call 93;(with_reducible refine(El _).mono ?_);rintro e w2 ⟨rfl,rfl⟩));go_ret;exact⟨ZK (a:=1) H1.out.symm,Bo⟩)
 |true=>
  cases b1 with
  |false=>(
    have H1:Hid (ZC r0 r1 r2 r3 S=1):=(by show _=_;rw[H0.out];simp);clear H0;go_enter func63,ntmps63;go_wp2_with (first|(go_at_call 93;(with_reducible refine(E7 _).mono ?_);rintro e w2 ⟨rfl,rfl⟩)|(go_at_call 93;(with_reducible refine(Di _).mono ?_);rintro e w2 ⟨rfl,rfl⟩)|(go_at_call 93;(with_reducible refine(D6 _).mono ?_);rintro e w2 ⟨rfl,rfl⟩)|(go_at_call 93;(with_reducible refine(El _).mono ?_);rintro e w2 ⟨rfl,rfl⟩));go_ret;exact⟨ZK (a:=1) H1.out.symm,Bo⟩)
  |true=>
   cases b2 with
   |false=>(
     have H1:Hid (ZC r0 r1 r2 r3 S=1):=(by show _=_;rw[H0.out];simp);clear H0;go_enter func63,ntmps63;go_wp2_with (first|(go_at_call 93;(with_reducible refine(E7 _).mono ?_);rintro e w2 ⟨rfl,rfl⟩)|(go_at_call 93;(with_reducible refine(Di _).mono ?_);rintro e w2 ⟨rfl,rfl⟩)|(go_at_call 93;(with_reducible refine(D6 _).mono ?_);rintro e w2 ⟨rfl,rfl⟩)|(go_at_call 93;(with_reducible refine(El _).mono ?_);rintro e w2 ⟨rfl,rfl⟩));go_ret;exact⟨ZK (a:=1) H1.out.symm,Bo⟩)
   |true=>
    cases b3 with
    |false=>(
      have H1:Hid (ZC r0 r1 r2 r3 S=1):=(by show _=_;rw[H0.out];simp);clear H0;go_enter func63,ntmps63;go_wp2_with (first|(go_at_call 93;(with_reducible refine(E7 _).mono ?_);rintro e w2 ⟨rfl,rfl⟩)|(go_at_call 93;(with_reducible refine(Di _).mono ?_);rintro e w2 ⟨rfl,rfl⟩)|(go_at_call 93;(with_reducible refine(D6 _).mono ?_);rintro e w2 ⟨rfl,rfl⟩)|(go_at_call 93;(with_reducible refine(El _).mono ?_);rintro e w2 ⟨rfl,rfl⟩));go_ret;exact⟨ZK (a:=1) H1.out.symm,Bo⟩)
    |true=>
     by_cases hr:r0<=r1
     ·have H6:decide (r0<=r1)=true:=decide_eq_true hr;rw[H6] at H0;simp only[Bool.and_self,if_true] at H0;clear H6;by_cases h8:8<n
      ·have h8i:(8:Int)<(n:Int):=(by omega);have H1:Hid (ZC r0 r1 r2 r3 S=2):=(by show _=_;rw[H0.out,if_pos h8]);clear H0 h8;go_enter func63,ntmps63;go_wp2_with (first|(go_at_call 93;(with_reducible refine(E7 _).mono ?_);rintro e w2 ⟨rfl,rfl⟩)|(go_at_call 93;(with_reducible refine(Di _).mono ?_);rintro e w2 ⟨rfl,rfl⟩)|(go_at_call 93;(with_reducible refine(D6 _).mono ?_);rintro e w2 ⟨rfl,rfl⟩)|(go_at_call 93;(with_reducible refine(El _).mono ?_);rintro e w2 ⟨rfl,rfl⟩));go_ret;exact⟨ZK (a:=2) H1.out.symm,Bo⟩
      ·have h8i:(n:Int)<=8:=(by omega);have H1:Hid (ZC r0 r1 r2 r3 S=if(S.drop 0).all okS then 0 else 1):=(by show _=_;rw[H0.out,if_neg h8]);clear H0 h8;go_enter func63,ntmps63;go_wp2_with (first|(go_at_call 93;(with_reducible refine(E7 _).mono ?_);rintro e w2 ⟨rfl,rfl⟩)|(go_at_call 93;(with_reducible refine(Di _).mono ?_);rintro e w2 ⟨rfl,rfl⟩)|(go_at_call 93;(with_reducible refine(D6 _).mono ?_);rintro e w2 ⟨rfl,rfl⟩)|(go_at_call 93;(with_reducible refine(El _).mono ?_);rintro e w2 ⟨rfl,rfl⟩));clear E7 Di D6 El;go_loopw [4] (fun v wr=>∃i:Nat,i<=n/\v= .int .i64 i/\Ext w wr/\wr.heap[w.heap.size]? =some (.cells #[.int .i64 r0,.int .i64 r1,.int .i64 r2,.int .i64 r3,.slice base n cap] 70)/\Hid (ZC r0 r1 r2 r3 S=if(S.drop i).all okS then 0 else 1)) (fun v _=>n - (intOf v).toNat)
       case atStart=>exact⟨0,Nat.zero_le _,rfl,Bo,Gd,H1⟩
       case round=>
        clear Bo Gd H1;obtain⟨i,hi,rfl,hE,hb,HP⟩:=hrel;have q4:=Z0 hb 4;simp only[List.getElem?_toArray,List.getElem?_cons_zero,List.getElem?_cons_succ] at q4;by_cases As:i=n
        ·subst As;have HR:Hid (ZC r0 r1 r2 r3 S=0):=(by show _=_;rw[HP.out,List.drop_of_length_le (by have:=A1.out;omega)];rfl);clear HP;go_wp2;go_ret;exact⟨ZK (a:=0) HR.out.symm,hE⟩
        ·have A3:i<n:=(by omega);have Dg:(i:Int)<(n:Int):=(by omega);obtain⟨s,hs⟩:∃s,S[i]? =some s:=⟨_,List.getElem?_eq_getElem (by have:=A1.out;omega)⟩;obtain⟨BS,OS,rfl,Uy,sh⟩:=Ds.out i s hs;have HN:Hid (ZC r0 r1 r2 r3 S=if inR s.a 0 90&&decide (0<=s.m/\s.m<=s.M/\s.M<=99999)&&inR s.wi 0 9&&inR s.li 0 9&&(S.drop (i+1)).all okS then 0 else 1):=(by show _=_;rw[HP.out,Z0b hs,List.all_cons,Zgh]);have s0:=hE.cellS sh.c0;have s1:=hE.cellS sh.c1;have s2:=hE.cellS sh.c2;have s3:=hE.cellS sh.c3;have s4:=hE.cellS sh.c4;have E7:=fun W=>Zgc s.a 0 90 W;have D6:=fun W=>Zgc s.wi 0 9 W;have El:=fun W=>Zgc s.li 0 9 W
         have Di:=fun W=>Z2e s.m s.M 0 99999 W
         clear HP hs sh Ds;generalize inR s.a 0 90=b0 at*;generalize decide (0<=s.m/\s.m<=s.M/\s.M<=99999)=b1 at*;generalize inR s.wi 0 9=b2 at*;generalize inR s.li 0 9=b3 at*;have A7:=hE.alloc (.cells #[.int .i64 s.a,.int .i64 s.m,.int .i64 s.M,.int .i64 s.wi,.int .i64 s.li] 80);have Al:=((Ext.rfl' wr).alloc (.cells #[.int .i64 s.a,.int .i64 s.m,.int .i64 s.M,.int .i64 s.wi,.int .i64 s.li] 80)).get hb;have Au:(wr.alloc (.cells #[.int .i64 s.a,.int .i64 s.m,.int .i64 s.M,.int .i64 s.wi,.int .i64 s.li] 80)).heap[wr.heap.size]? =some (.cells #[.int .i64 s.a,.int .i64 s.m,.int .i64 s.M,.int .i64 s.wi,.int .i64 s.li] 80):=(by rw[Z3,if_pos rfl]);cases b0 with
         |false=>(
           have HN2:Hid (ZC r0 r1 r2 r3 S=1):=(by show _=_;rw[HN.out];simp);clear HN;go_wp2_with (first|(go_at_call 93;(with_reducible refine(E7 _).mono ?_);rintro e w2 ⟨rfl,rfl⟩)|(go_at_call 95;(with_reducible refine(Di _).mono ?_);rintro e w9 ⟨rfl,Bh⟩;replace A7:=A7.trans Bh;replace Al:=Bh.get Al;replace Au:=Bh.get Au;clear Bh;have y0:=Z0 Au 0;have y1:=Z0 Au 1;have y2:=Z0 Au 2;have y3:=Z0 Au 3;have y4:=Z0 Au 4;simp only[List.getElem?_toArray,List.getElem?_cons_zero,List.getElem?_cons_succ] at y0 y1 y2 y3 y4)|(go_at_call 93;(with_reducible refine(D6 _).mono ?_);rintro e w2 ⟨rfl,rfl⟩)|(go_at_call 93;(with_reducible refine(El _).mono ?_);rintro e w2 ⟨rfl,rfl⟩));go_ret;exact⟨ZK (a:=1) HN2.out.symm,A7⟩)
         |true=>
          cases b1 with
          |false=>(
            have HN2:Hid (ZC r0 r1 r2 r3 S=1):=(by show _=_;rw[HN.out];simp);clear HN;go_wp2_with (first|(go_at_call 93;(with_reducible refine(E7 _).mono ?_);rintro e w2 ⟨rfl,rfl⟩)|(go_at_call 95;(with_reducible refine(Di _).mono ?_);rintro e w9 ⟨rfl,Bh⟩;replace A7:=A7.trans Bh;replace Al:=Bh.get Al;replace Au:=Bh.get Au;clear Bh;have y0:=Z0 Au 0;have y1:=Z0 Au 1;have y2:=Z0 Au 2;have y3:=Z0 Au 3;have y4:=Z0 Au 4;simp only[List.getElem?_toArray,List.getElem?_cons_zero,List.getElem?_cons_succ] at y0 y1 y2 y3 y4)|(go_at_call 93;(with_reducible refine(D6 _).mono ?_);rintro e w2 ⟨rfl,rfl⟩)|(go_at_call 93;(with_reducible refine(El _).mono ?_);rintro e w2 ⟨rfl,rfl⟩));go_ret;exact⟨ZK (a:=1) HN2.out.symm,A7⟩)
          |true=>
           cases b2 with
           |false=>(
             have HN2:Hid (ZC r0 r1 r2 r3 S=1):=(by show _=_;rw[HN.out];simp);clear HN;go_wp2_with (first|(go_at_call 93;(with_reducible refine(E7 _).mono ?_);rintro e w2 ⟨rfl,rfl⟩)|(go_at_call 95;(with_reducible refine(Di _).mono ?_);rintro e w9 ⟨rfl,Bh⟩;replace A7:=A7.trans Bh;replace Al:=Bh.get Al;replace Au:=Bh.get Au;clear Bh;have y0:=Z0 Au 0;have y1:=Z0 Au 1;have y2:=Z0 Au 2;have y3:=Z0 Au 3;have y4:=Z0 Au 4;simp only[List.getElem?_toArray,List.getElem?_cons_zero,List.getElem?_cons_succ] at y0 y1 y2 y3 y4)|(go_at_call 93;(with_reducible refine(D6 _).mono ?_);rintro e w2 ⟨rfl,rfl⟩)|(go_at_call 93;(with_reducible refine(El _).mono ?_);rintro e w2 ⟨rfl,rfl⟩));go_ret;exact⟨ZK (a:=1) HN2.out.symm,A7⟩)
           |true=>
            cases b3 with
            |false=>(
              have HN2:Hid (ZC r0 r1 r2 r3 S=1):=(by show _=_;rw[HN.out];simp);clear HN;go_wp2_with (first|(go_at_call 93;(with_reducible refine(E7 _).mono ?_);rintro e w2 ⟨rfl,rfl⟩)|(go_at_call 95;(with_reducible refine(Di _).mono ?_);rintro e w9 ⟨rfl,Bh⟩;replace A7:=A7.trans Bh;replace Al:=Bh.get Al;replace Au:=Bh.get Au;clear Bh;have y0:=Z0 Au 0;have y1:=Z0 Au 1;have y2:=Z0 Au 2;have y3:=Z0 Au 3;have y4:=Z0 Au 4;simp only[List.getElem?_toArray,List.getElem?_cons_zero,List.getElem?_cons_succ] at y0 y1 y2 y3 y4)|(go_at_call 93;(with_reducible refine(D6 _).mono ?_);rintro e w2 ⟨rfl,rfl⟩)|(go_at_call 93;(with_reducible refine(El _).mono ?_);rintro e w2 ⟨rfl,rfl⟩));go_ret;exact⟨ZK (a:=1) HN2.out.symm,A7⟩)
            |true=>
             have HN2:Hid (ZC r0 r1 r2 r3 S=if(S.drop (i+1)).all okS then 0 else 1):=(by show _=_;rw[HN.out];rfl);clear HN;go_wp2_with (first|(go_at_call 93;(with_reducible refine(E7 _).mono ?_);rintro e w2 ⟨rfl,rfl⟩)|(go_at_call 95;(with_reducible refine(Di _).mono ?_);rintro e w9 ⟨rfl,Bh⟩;replace A7:=A7.trans Bh;replace Al:=Bh.get Al;replace Au:=Bh.get Au;clear Bh;have y0:=Z0 Au 0;have y1:=Z0 Au 1;have y2:=Z0 Au 2;have y3:=Z0 Au 3;have y4:=Z0 Au 4;simp only[List.getElem?_toArray,List.getElem?_cons_zero,List.getElem?_cons_succ] at y0 y1 y2 y3 y4)|(go_at_call 93;(with_reducible refine(D6 _).mono ?_);rintro e w2 ⟨rfl,rfl⟩)|(go_at_call 93;(with_reducible refine(El _).mono ?_);rintro e w2 ⟨rfl,rfl⟩));go_roundw
             case rel=>exact⟨i+1,by omega,by push_cast;rfl,A7,Al,HN2⟩
             case measure=>simp[intOf];omega
     ·have H6:decide (r0<=r1)=false:=decide_eq_false hr;have hri:r1<r0:=(by omega);have H1:Hid (ZC r0 r1 r2 r3 S=1):=(by show _=_;rw[H0.out,H6];simp);clear H0 H6;go_enter func63,ntmps63;go_wp2_with (first|(go_at_call 93;(with_reducible refine(E7 _).mono ?_);rintro e w2 ⟨rfl,rfl⟩)|(go_at_call 93;(with_reducible refine(Di _).mono ?_);rintro e w2 ⟨rfl,rfl⟩)|(go_at_call 93;(with_reducible refine(D6 _).mono ?_);rintro e w2 ⟨rfl,rfl⟩)|(go_at_call 93;(with_reducible refine(El _).mono ?_);rintro e w2 ⟨rfl,rfl⟩));go_ret;exact⟨ZK (a:=1) H1.out.symm,Bo⟩
end Go.Proofs.Tryq
namespace Go.Proofs.Tryq
set_option maxRecDepth 100000
set_option maxHeartbeats 2000000
open Go Go.Nk Go.RowKit
def ZfR(r0 r1 r2 r3:Int)(S:List Rs):Bool:=decide (S.length<=20)&&(ZC r0 r1 r2 r3 S==0)
theorem Zgb(r0 r1 r2 r3:Int)(base:Option Addr)(n cap:Nat)(S:List Rs)(w:World)(A1:S.length=n)(hS:RawS w base S):
 Calls prog 42 #[.agg #[.int .i64 r0,.int .i64 r1,.int .i64 r2,.int .i64 r3,.slice base n cap]] w fun e w'=>e= .returned (.bool (ZfR r0 r1 r2 r3 S))/\Ext w w':=by
 have hc:=fun W (hW:Ext w W)=>ZfQ r0 r1 r2 r3 base n cap S W A1 (hS.ext hW)
 have hE:=(Ext.rfl' w).alloc (.cells #[.int .i64 r0,.int .i64 r1,.int .i64 r2,.int .i64 r3,.slice base n cap] 70);by_cases Nt:n<=20
 ·have Yb:(n:Int)<=20:=by omega
  have hf:Hid (ZfR r0 r1 r2 r3 S=(ZC r0 r1 r2 r3 S==0)):=by show _=_;rw[ZfR,A1];simp[Nt]
  generalize ZC r0 r1 r2 r3 S=f at hc hf;generalize ZfR r0 r1 r2 r3 S=g at hf⊢;clear Nt;go_enter func42,ntmps42;go_wp2_with (first|(go_at_call 63;refine(hc _ hE).mono ?_;rintro e w2 ⟨rfl,A7⟩));go_ret;exact⟨ZP (a:=f==0) hf.out.symm,hE.trans A7⟩
 ·have Yb:(20:Int)<(n:Int):=by omega
  have hf:Hid (ZfR r0 r1 r2 r3 S=false):=by show _=_;rw[ZfR,A1];simp[Nt]
  generalize ZfR r0 r1 r2 r3 S=g at hf⊢;clear Nt hc;go_enter func42,ntmps42;go_wp2_with fail;go_ret;exact⟨ZP (a:=false) hf.out.symm,hE⟩
end Go.Proofs.Tryq
