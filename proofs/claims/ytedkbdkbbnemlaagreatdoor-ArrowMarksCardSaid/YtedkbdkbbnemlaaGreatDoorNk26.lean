import Derived.Test.YtedkbdkbbnemlaaGreatDoorNk25
set_option linter.all false
namespace Go.Proofs.Tryq
set_option maxRecDepth 100000
set_option maxHeartbeats 4000000
open Go Go.Nk Go.RowKit
def Z8F(r0 r1 r2 r3:Int)(S:List Rs)(a m k:Int):Int:=firstV (Zy r0 r1 r2 r3 S [Zv a,Z87 m k])
def hitV(x:Int×Int)(m k:Int):Int:=if max x.1 (wrap64 (m - k))=x.1/\min x.2 (wrap64 (m+k))=x.2 then 1 else if min x.2 (wrap64 (m+k))<max x.1 (wrap64 (m - k)) then 2 else 0
def Z6c(r0 r1 r2 r3:Int)(S:List Rs)(a m k:Int):Int:=if Z8F r0 r1 r2 r3 S a m k=0 then hitV (Z4L r0 r1 r2 r3 S a) m k else 0
theorem Zfl{w:World}{c b i j:Nat}{u v:Value}{o:Obj}(hn:c≠b)(h:w.heap[c]? =some o):((w.setCell ⟨b,i,none⟩ u).setCell ⟨b,j,none⟩ v).heap[c]? =some o:=
 (set_ne (w:=w.setCell _ _) hn _).trans ((set_ne hn _).trans h)
theorem Zc7(r0 r1 r2 r3:Int)(base:Option Addr)(n cap:Nat)(w:World)(at' mark within:Int)(S:List Rs)(A0:S.length=n)(hS:RawS w base S)(C0:Most w):
 Calls prog 53 #[.agg #[.int .i64 r0,.int .i64 r1,.int .i64 r2,.int .i64 r3,.slice base n cap],.int .i64 at',.int .i64 mark,.int .i64 within] w fun e w'=>
  e= .returned (.tuple #[.int .i64 (Z6c r0 r1 r2 r3 S at' mark within),.int .i64 (Z8F r0 r1 r2 r3 S at' mark within)])/\Ext w w':=by
 go_enter func53,ntmps53;go_wp2_with fail;have Af:Ext w _:=(((Ext.rfl' w).alloc (.cells #[.int .i64 r0,.int .i64 r1,.int .i64 r2,.int .i64 r3,.slice base n cap] 70)).alloc (.cells #[.int .i64 mark] 3)).alloc (.cells #[.int .i64 within] 3);have hb:(((w.alloc (.cells #[.int .i64 r0,.int .i64 r1,.int .i64 r2,.int .i64 r3,.slice base n cap] 70)).alloc (.cells #[.int .i64 mark] 3)).alloc (.cells #[.int .i64 within] 3)).heap[w.heap.size]? =some (.cells #[.int .i64 r0,.int .i64 r1,.int .i64 r2,.int .i64 r3,.slice base n cap] 70):=by
  simp only[Z3,Z2];rw[if_neg (by omega),if_neg (by omega),if_pos trivial]
 have hZ:(((w.alloc (.cells #[.int .i64 r0,.int .i64 r1,.int .i64 r2,.int .i64 r3,.slice base n cap] 70)).alloc (.cells #[.int .i64 mark] 3)).alloc (.cells #[.int .i64 within] 3)).heap[w.heap.size+1]? =some (.cells #[.int .i64 mark] 3):=by
  simp only[Z3,Z2];rw[if_neg (by omega),if_pos trivial]
 have hY:(((w.alloc (.cells #[.int .i64 r0,.int .i64 r1,.int .i64 r2,.int .i64 r3,.slice base n cap] 70)).alloc (.cells #[.int .i64 mark] 3)).alloc (.cells #[.int .i64 within] 3)).heap[w.heap.size+1+1]? =some (.cells #[.int .i64 within] 3):=by
  simp only[Z3,Z2];rw[if_pos trivial]
 generalize World.alloc _ _=w1 at Af hb hZ hY⊢;have hX:=Ext.rfl' w1;have q0:=Z0 hb 0;have q1:=Z0 hb 1;have q2:=Z0 hb 2;have q3:=Z0 hb 3;have q4:=Z0 hb 4;simp only[List.getElem?_toArray,List.getElem?_cons_zero,List.getElem?_cons_succ] at q0 q1 q2 q3 q4;have g0:=Zet q0;have g1:=Zet q1;have g2:=Zet q2;have g3:=Zet q3;have g4:=Zet q4;have r1':w1.cell? ⟨w.heap.size+1,0,none⟩=some (.int .i64 mark):=by rw[Z0 hZ];rfl
 have r2':w1.cell? ⟨w.heap.size+1+1,0,none⟩=some (.int .i64 within):=by rw[Z0 hY];rfl
 refine Zfn 10 9 10 [0,1,2,3,4,5,6,7] (.cells #[.int .i64 0,.int .i64 0,.int .i64 0,.int .i64 0,.slice none 0 0,.slice none 0 0] 146) (by kernel_rfl) rfl (by kernel_rfl) rfl rfl (fun a W=>by simp[go_sem,execOp,Act.eval]) ?_;refine Zfj [0,1,3] (by kernel_rfl) rfl rfl (by kernel_rfl) ?_;simp only[ZeD,List.getElem?_cons_succ,List.getElem?_cons_zero,List.cons_append,List.nil_append]
 repeat (go_big_quiet_step (fail))
 refine wpQuiet_nil ?_;refine Zfk 2 rfl (by kernel_rfl) rfl (fun W hW=>Zfo (f:=104) (args:= #[.int .i64 at']) (by simp[go_sem,execOp,Act.eval]) ?_);refine(Z9v at' W).mono ?_;rintro e V0 ⟨p0,rfl,hF,Dg⟩;refine⟨.func (.func 151) #[] #[.pointer (some ⟨p0,0,none⟩)],rfl,hF,?_⟩;replace hX:=hX.trans (hW.trans hF);clear hF hW;go_simp;refine Zfk 4 rfl (by kernel_rfl) rfl (fun W hW=>Zf3 ⟨.slice (some ⟨W.heap.size,0,none⟩) 2 2,W.alloc (.cells #[.func (.func 151) #[] #[.pointer (some ⟨p0,0,none⟩)],.func (.func 113) #[] #[.pointer (some ⟨w.heap.size+1,0,none⟩),.pointer (some ⟨w.heap.size+1+1,0,none⟩)]] 127),by simp[go_sem,execOp,Act.eval],(Ext.rfl' W).alloc _,?_⟩);have By:=Z30 W #[.func (.func 151) #[] #[.pointer (some ⟨p0,0,none⟩)],.func (.func 113) #[] #[.pointer (some ⟨w.heap.size+1,0,none⟩),.pointer (some ⟨w.heap.size+1+1,0,none⟩)]] [(151,#[],#[.pointer (some ⟨p0,0,none⟩)]),(113,#[],#[.pointer (some ⟨w.heap.size+1,0,none⟩),.pointer (some ⟨w.heap.size+1+1,0,none⟩)])] W.heap.size rfl rfl;have hF:=(hW.alloc (.cells #[.func (.func 151) #[] #[.pointer (some ⟨p0,0,none⟩)],.func (.func 113) #[] #[.pointer (some ⟨w.heap.size+1,0,none⟩),.pointer (some ⟨w.heap.size+1+1,0,none⟩)]] 127));replace hX:=hX.trans hF
 replace Dg:=hF.cellS Dg;clear hF hW;generalize W.heap.size=B2 at By⊢;generalize World.alloc W _=V9 at*;go_simp;refine Zfk 5 rfl (by kernel_rfl) rfl (fun W hW=>Zfo (f:=103) (args:= #[.agg #[.int .i64 r0,.int .i64 r1,.int .i64 r2,.int .i64 r3,.slice base n cap],.slice (some ⟨B2,0,none⟩) 2 2]) (by simp[go_sem,execOp,Act.eval]) ?_)
 refine(Z4K r0 r1 r2 r3 base n cap W 2 B2 (by omega) [(151,#[],#[.pointer (some ⟨p0,0,none⟩)]),(113,#[],#[.pointer (some ⟨w.heap.size+1,0,none⟩),.pointer (some ⟨w.heap.size+1+1,0,none⟩)])] [Zv at',Z87 mark within] rfl rfl (fun j x hj=>hW.cellS (By j x hj)) (by intro x hx args w';simp only[List.mem_cons,List.not_mem_nil,or_false] at hx;rcases hx with rfl|rfl<;>simp[go_sem]) (by
       intro j x r hj hr w' hw'
       match j,hj,hr with
       |0,hj,hr=>
        obtain rfl:=Option.some.inj hj;obtain rfl:=Option.some.inj hr;exact Z3x p0 at' w' ((hW.trans hw').cellS Dg)
       |1,hj,hr=>
        obtain rfl:=Option.some.inj hj;obtain rfl:=Option.some.inj hr;exact ZcY _ _ mark within w' ((hX.trans (hW.trans hw')).cellS r1') ((hX.trans (hW.trans hw')).cellS r2')) S A0 (hS.ext (Af.trans (hX.trans hW))) (C0.ext (Af.trans (hX.trans hW)))).mono ?_
 rintro e V10 ⟨k0,k1,k2,k3,b4,n4,c4,b5,n5,c5,rfl,hF,Cc⟩;refine⟨.tuple #[.agg #[.int .i64 k0,.int .i64 k1,.int .i64 k2,.int .i64 k3,.slice b4 n4 c4,.slice b5 n5 c5],.int .i64 (firstV (Zy r0 r1 r2 r3 S [Zv at',Z87 mark within]))],rfl,hF,?_⟩;replace hX:=hX.trans (hW.trans hF);have Ar:Askd r0 r1 r2 r3 base n cap S [Zv at',Z87 mark within] k0 k1 k2 k3 b4 n4 c4 b5 n5 c5 V10:=fun h=>by obtain⟨B,p,h0,h1,h2,h3,h4,h5,h6,h7,h8,h9,hC,_⟩:=Cc h;exact⟨B,p,h0,h1,h2,h3,h4,h5,h6,h7,h8,h9,hC⟩
 clear hF hW Cc By Dg;go_simp;refine Zfj [6,7,8] (by kernel_rfl) rfl rfl (by kernel_rfl) ?_;simp only[ZeD,List.getElem?_cons_succ,List.getElem?_cons_zero,List.cons_append,List.nil_append]
 repeat (go_big_quiet_step (fail))
 refine wpQuiet_nil ?_;refine Zfq (by kernel_rfl) (fun W hW b hA C3 Ad=> ?_);have Gb:w1.heap.size<=b:=hA.1.1.1;replace hX:=hX.trans hW;replace Ar:=Ar.ext hW;clear r1' r2';clear hW;go_simp;refine Zfp 2 (by kernel_rfl) (fun W hW=> ?_);simp only[List.drop_succ_cons,List.drop_zero];replace hX:=hX.trans hW;replace Ar:=Ar.ext hW;replace Ad:=hW.get Ad;have Ca:w.heap.size<=b:=by have h1:=Gb;have h2:=Af.size;omega
 have Sd:=hX.get hZ;have Ue:w.heap.size+1≠b:=by have h1:=Gb;have h2:=Z5 hZ;omega
 have Se:=hX.get hY;have Uf:w.heap.size+1+1≠b:=by have h1:=Gb;have h2:=Z5 hY;omega
 have Az:=Af.trans hX;clear hA Gb C3 hW hX Af hb q0 q1 q2 q3 q4 g0 g1 g2 g3 g4 hZ hY;have x0:=Z8 Ad 0;have x1:=Z8 Ad 1;have x2:=Z8 Ad 2;have x3:=Z8 Ad 3;have x4:=Z8 Ad 4;have x5:=Z8 Ad 5;have y0:=Z0 Ad 0;have y1:=Z0 Ad 1;have y2:=Z0 Ad 2;have y3:=Z0 Ad 3;have y4:=Z0 Ad 4;have y5:=Z0 Ad 5;simp only[List.getElem?_toArray,List.getElem?_cons_zero,List.getElem?_cons_succ] at y0 y1 y2 y3 y4 y5;have Ag:=Z0K Ad (.int .i64 k0) (.int .i64 k1) (.int .i64 k2) (.int .i64 k3) (.slice b4 n4 c4) (.slice b5 n5 c5);obtain⟨hX,Dh⟩:=Ag;replace Ar:=Ar.stored Ad Dh;replace Az:=Dh.before Az Ca;have Kx:=Dh.get Ue Sd;have M5:=Dh.get Uf Se;go_wp2_with fail;generalize ((((((W.setCell ⟨b,0,none⟩ (.int .i64 k0)).setCell ⟨b,1,none⟩ (.int .i64 k1)).setCell ⟨b,2,none⟩ (.int .i64 k2)).setCell ⟨b,3,none⟩ (.int .i64 k3)).setCell ⟨b,4,none⟩ (.slice b4 n4 c4)).setCell ⟨b,5,none⟩ (.slice b5 n5 c5))=X at hX Ar Az Dh Kx M5⊢;clear Dh Ad Ca x0 x1 x2 x3 x4 x5 y0 y1 y2 y3 y4 y5 Sd Se;refine Zfm ?_;go_wp2_with fail
 ·have A7:(firstV (Zy r0 r1 r2 r3 S [Zv at',Z87 mark within]) !=0)=true:=by assumption
  have Bu:¬Z8F r0 r1 r2 r3 S at' mark within=0:=by simpa[Z8F] using A7
  go_ret2;exact⟨by rw[Z6c,if_neg Bu];rfl,Az⟩
 ·have heq:(firstV (Zy r0 r1 r2 r3 S [Zv at',Z87 mark within]) !=0)=false:=by assumption
  have Bu:firstV (Zy r0 r1 r2 r3 S [Zv at',Z87 mark within])=0:=by simpa using heq
  obtain⟨Fw,Fi,Cj,Mt⟩:=Z11 Bu;obtain⟨_,h8,_⟩:=Z0i Fw;have Ch:=Z0N (Fi (Zv at') (by simp));obtain⟨d,rfl⟩:=Int.eq_ofNat_of_zero_le Ch.1;have Cw:d<=90:=by omega
  obtain⟨B,p',e0,e1,e2,e3,e4,e5,e6,e7,e8,e9,hC⟩:=Ar Bu;subst k0 k1 k2 k3 b4 n4 c4 b5 n5 c5;have Cx:n<=8:=by omega
  have Ba:=fun v w'=>Z08 r0 r1 r2 r3 base n cap v Cx w'
  have hat:=fun w' hm' hC'=>Z2Y r0 r1 r2 r3 (.slice base n cap) B n d (2 ^ n - 1) p' (cvS r0 r1 r2 r3 (S.map Ze)) Cx Cw (Z2Z Cx) w' hm' hC'
  have HV:Hid (Z4L r0 r1 r2 r3 S d=atF (cvS r0 r1 r2 r3 (S.map Ze)) (2 ^ n - 1) d n):=by
   show _=_;rw[Z4L,Int.toNat_natCast,A0]
  have E6:Hid (Z8F r0 r1 r2 r3 S d mark within=0):=Bu;have Fa:=C0.ext Az;clear Ar Fw Fi Cj Mt heq Bu Ch;generalize (2:Int) ^ n - 1=st at Ba hat HV;generalize atF (cvS r0 r1 r2 r3 (S.map Ze)) st d n=V at hat HV;obtain⟨va,vb⟩:=V;have x0:=Z0 hX 0;have x1:=Z0 hX 1;have x2:=Z0 hX 2;have x3:=Z0 hX 3;have x4:=Z0 hX 4;have x5:=Z0 hX 5;simp only[List.getElem?_toArray,List.getElem?_cons_zero,List.getElem?_cons_succ] at x0 x1 x2 x3 x4 x5;have c0:=Zet x0;have c1:=Zet x1;have c2:=Zet x2;have c3:=Zet x3;have c4:=Zet x4;have c5:=Zet x5;refine Zfn 6 5 12 [0,1,2,3,4] (.cells #[.int .i64 0,.int .i64 0] 48) (by kernel_rfl) rfl (by kernel_rfl) rfl rfl (fun a W=>by simp[go_sem,execOp,Act.eval]) ?_;refine Zfj [0,1,3] (by kernel_rfl) rfl rfl (by kernel_rfl) ?_;simp only[ZeD,List.getElem?_cons_succ,List.getElem?_cons_zero,List.cons_append,List.nil_append]
  repeat (go_big_quiet_step (fail))
  refine wpQuiet_nil ?_;refine Zfr 2 (f:=106) (args:= #[.agg #[.int .i64 r0,.int .i64 r1,.int .i64 r2,.int .i64 r3,.slice base n cap,.slice (some ⟨B,0,none⟩) n n]]) (v:= .int .i64 st) (by kernel_rfl) rfl rfl rfl (by kernel_rfl) rfl (fun W=>by simp[go_sem,execOp,Act.eval]) (fun W _=>Ba _ W) ?_;go_simp;refine Zfr 4 (f:=105) (args:= #[.agg #[.int .i64 r0,.int .i64 r1,.int .i64 r2,.int .i64 r3,.slice base n cap,.slice (some ⟨B,0,none⟩) n n],.int .i64 st,.int .i64 d]) (v:= .agg #[.int .i64 va,.int .i64 vb]) (by kernel_rfl) rfl rfl rfl (by kernel_rfl) rfl (fun W=>by simp[go_sem,execOp,Act.eval]) (fun W hW=>hat W (Fa.ext hW) (hC.ext hW)) ?_;go_simp;refine Zfq (by kernel_rfl) (fun W hW b hA C3 Ad=> ?_);obtain⟨bx,rfl⟩:∃bx,bx=b:=⟨_,rfl⟩;have Am:=hW;clear hW;go_simp;refine Zfp 1 (by kernel_rfl) (fun W hW=> ?_);simp only[List.drop_succ_cons,List.drop_zero];replace Ad:=hW.get Ad;have C1:=(Az.trans Am).trans hW;have Ca:w.heap.size<=bx:=by have h1:=hA;have h2:=Az.size;omega
  have Gm:=set_pair Ad (.int .i64 va) (.int .i64 vb);have Jt:=(C1.setCell ⟨bx,0,none⟩ (.int .i64 va) Ca).setCell ⟨bx,1,none⟩ (.int .i64 vb) Ca;have g:=Zc Ad;have g0:=g.1;have g1:=g.2.1;have g2:=g.2.2.1;have g3:=g.2.2.2;have hZY:=Zfl (w:=W) (b:=bx) (i:=0) (j:=1) (u:= .int .i64 va) (v:= .int .i64 vb) (by have h1:=Z5 Kx;omega) (hW.get (Am.get Kx));have hYY:=Zfl (w:=W) (b:=bx) (i:=0) (j:=1) (u:= .int .i64 va) (v:= .int .i64 vb) (by have h1:=Z5 M5;omega) (hW.get (Am.get M5));clear Kx M5;clear g C1 Az hW Am Ca hA C3 Fa Ba hat hX x0 x1 x2 x3 x4 x5 c0 c1 c2 c3 c4 c5 hC;go_wp2_with fail;generalize (W.setCell ⟨bx,0,none⟩ (.int .i64 va)).setCell ⟨bx,1,none⟩ (.int .i64 vb)=Y at*;clear g0 g1 g2 g3 Ad;refine Zfm ?_;have g:=Zc Gm;have g0:=g.1;have g1:=g.2.1;have g2:=g.2.2.1;have g3:=g.2.2.2;have hm:=Z0 hZY 0;have hw:=Z0 hYY 0;simp only[List.getElem?_toArray,List.getElem?_cons_zero,List.getElem?_cons_succ] at hm hw;clear hZY hYY;go_wp2_with (first|(go_at_call 114;refine(Z7i _ _ _ _ _).mono ?_;rintro e w9 ⟨rfl,Bl⟩;have Gt:=Zc (Bl.get Gm);have j0:=Gt.1;have j1:=Gt.2.1;have Kv:bx<w9.heap.size:=Z5 (Bl.get Gm);have hp9:∀(o:Obj)(i:Nat),(w9.alloc o).cell? ⟨bx,i,none⟩=w9.cell? ⟨bx,i,none⟩:=fun o i=>World.cell?_alloc_lt _ _ _ Kv))
  all_goals
   go_ret2;refine⟨?_,(Jt.trans Bl).alloc _⟩;rw[Z6c,if_pos E6.out,E6.out,HV.out];simp at*;rw[hitV]
   first|rw[if_pos (by omega)]|(rw[if_neg (by omega)];first|rw[if_pos (by omega)]|rw[if_neg (by omega)])
theorem Zg5(a b c d:Int)(w:World):Calls prog 46 #[.agg #[.int .i64 a,.int .i64 b],.agg #[.int .i64 c,.int .i64 d]] w fun e w'=>e= .returned (.agg #[.int .i64 (max a c),.int .i64 (min b d)])/\Ext w w':=by
 go_enter func46,ntmps46;go_wp2
 all_goals
  refine bodyPost_ret (v:= .agg #[.int .i64 (max a c),.int .i64 (min b d)]) ((Z07 rfl _ _ _).trans ?_) rfl ⟨rfl,(((Ext.rfl' w).alloc _).alloc _).alloc _⟩;simp[go_sem];omega
theorem ZfZ(r0 r1 r2 r3:Int)(s:Rs)(w:World):Calls prog 120 #[.agg #[.int .i64 r0,.int .i64 r1,.int .i64 r2,.int .i64 r3],.agg #[.int .i64 s.a,.int .i64 s.m,.int .i64 s.M,.int .i64 s.wi,.int .i64 s.li]] w fun e w'=>e= .returned (.agg #[.int .i64 (Z68 r2 r3 s).1,.int .i64 (Z68 r2 r3 s).2])/\Ext w w':=by
 go_enter func120,ntmps120;go_wp2;refine bodyPost_ret (v:= .agg #[.int .i64 (Z68 r2 r3 s).1,.int .i64 (Z68 r2 r3 s).2]) ((Z07 rfl _ _ _).trans ?_) rfl ⟨rfl,(((Ext.rfl' w).alloc _).alloc _).alloc _⟩;simp[go_sem,Z68,lo,hi]
theorem ZfX(r0 r1 r2 r3 d:Int)(s:Rs)(w:World):Calls prog 147 #[.agg #[.int .i64 r0,.int .i64 r1,.int .i64 r2,.int .i64 r3],.agg #[.int .i64 s.a,.int .i64 s.m,.int .i64 s.M,.int .i64 s.wi,.int .i64 s.li],.int .i64 d] w fun e w'=>e= .returned (.agg #[.int .i64 (Zdx r0 r1 r2 r3 s d).1,.int .i64 (Zdx r0 r1 r2 r3 s d).2])/\Ext w w':=by
 have hw:=fun W=>ZfZ r0 r1 r2 r3 s W
 have Au:=(((Ext.rfl' w).alloc (.cells #[.int .i64 r0,.int .i64 r1,.int .i64 r2,.int .i64 r3] 67)).alloc (.cells #[.int .i64 s.a,.int .i64 s.m,.int .i64 s.M,.int .i64 s.wi,.int .i64 s.li] 80)).alloc (.cells #[.int .i64 0,.int .i64 0] 48);have b0:(((w.alloc (.cells #[.int .i64 r0,.int .i64 r1,.int .i64 r2,.int .i64 r3] 67)).alloc (.cells #[.int .i64 s.a,.int .i64 s.m,.int .i64 s.M,.int .i64 s.wi,.int .i64 s.li] 80)).alloc (.cells #[.int .i64 0,.int .i64 0] 48)).heap[w.heap.size]? =some (.cells #[.int .i64 r0,.int .i64 r1,.int .i64 r2,.int .i64 r3] 67):=by
  simp only[Z3,Z2];rw[if_neg (by omega),if_neg (by omega),if_pos trivial]
 have b1:(((w.alloc (.cells #[.int .i64 r0,.int .i64 r1,.int .i64 r2,.int .i64 r3] 67)).alloc (.cells #[.int .i64 s.a,.int .i64 s.m,.int .i64 s.M,.int .i64 s.wi,.int .i64 s.li] 80)).alloc (.cells #[.int .i64 0,.int .i64 0] 48)).heap[w.heap.size+1]? =some (.cells #[.int .i64 s.a,.int .i64 s.m,.int .i64 s.M,.int .i64 s.wi,.int .i64 s.li] 80):=by
  simp only[Z3,Z2];rw[if_neg (by omega),if_pos trivial]
 have b2:(((w.alloc (.cells #[.int .i64 r0,.int .i64 r1,.int .i64 r2,.int .i64 r3] 67)).alloc (.cells #[.int .i64 s.a,.int .i64 s.m,.int .i64 s.M,.int .i64 s.wi,.int .i64 s.li] 80)).alloc (.cells #[.int .i64 0,.int .i64 0] 48)).heap[w.heap.size+1+1]? =some (.cells #[.int .i64 0,.int .i64 0] 48):=by
  simp only[Z3,Z2];rw[if_pos trivial]
 have hz:Hid (Zdx r0 r1 r2 r3 s d=if s.a<=d then(wrap64 ((Z68 r2 r3 s).1+wrap64 (r0*wrap64 (d - s.a))),wrap64 ((Z68 r2 r3 s).2+wrap64 (r1*wrap64 (d - s.a))))
  else(wrap64 ((Z68 r2 r3 s).1 - wrap64 (r1*wrap64 (s.a - d))),wrap64 ((Z68 r2 r3 s).2 - wrap64 (r0*wrap64 (s.a - d))))):=rfl
 generalize Z68 r2 r3 s=x at hw hz;obtain⟨xa,xb⟩:=x;generalize Zdx r0 r1 r2 r3 s d=F at hz⊢;go_enter func147,ntmps147
 go_wp2_with (first
  |(go_at_call 120;refine(hw _).mono ?_;rintro e w2 ⟨rfl,A8⟩
    have Ah:=Au.trans A8;replace b0:=A8.get b0;replace b1:=A8.get b1;replace b2:=A8.get b2;have l0:=Z5 b0;have l1:=Z5 b1;have l2:=Z5 b2;have p0:=Z0 b0 0;have p1:=Z0 b0 1;have p2:=Z0 b0 2;have p3:=Z0 b0 3;have q0:=Z0 b1 0;have z:=Zc b2;have z0:=z.1;have z1:=z.2.1;have z2:=z.2.2.1;have z3:=z.2.2.2;simp only[List.getElem?_toArray,List.getElem?_cons_zero,List.getElem?_cons_succ] at p0 p1 p2 p3 q0;clear z Au A8 hw))
 all_goals
  have hF:=hz.out
  first|rw[if_pos (by omega)] at hF|rw[if_neg (by omega)] at hF
  subst hF;have h2:w.heap.size<=w.heap.size+1+1:=by omega
  refine bodyPost_ret (v:= .agg #[.int .i64 _,.int .i64 _]) ((Z07 rfl _ _ _).trans ?_) rfl ⟨rfl,((Ah.setCell _ _ h2).setCell _ _ h2).alloc _⟩;have hq:=fun u v o=>((Ext.rfl' ((w2.setCell ⟨w.heap.size+1+1,0,none⟩ u).setCell ⟨w.heap.size+1+1,1,none⟩ v)).alloc o).cellS (Zc (set_pair b2 u v)).1
  have Xe:=fun u v o=>((Ext.rfl' ((w2.setCell ⟨w.heap.size+1+1,0,none⟩ u).setCell ⟨w.heap.size+1+1,1,none⟩ v)).alloc o).cellS (Zc (set_pair b2 u v)).2.1
  simp[go_sem,hq,Xe]
theorem Zg9(n:Nat)(w:World)(hn:n<=1000):Calls prog 44 #[.int .i64 n] w fun e w'=>∃x,e= .returned x/\OwnI w.heap.size w' x (upL n)/\Ext w w':=by
 obtain⟨N,hN⟩:∃N,N=w.heap.size:=⟨_,rfl⟩;rw[<-hN];go_enter func44,ntmps44;go_wp2;go_loopw [3,4] (fun v3 v4 wr=>∃i:Nat,i<=n/\v4= .int .i64 i/\OwnI N wr v3 (upL i)/\Ext w wr) (fun _ v4 _=>n - (intOf v4).toNat)
 case atStart=>exact⟨0,Nat.zero_le _,rfl,World.ownsRow_nil _ _ _ _,Ext.rfl' w⟩
 case round=>
  rename_i v3 _;obtain⟨i,hi,rfl,Ab,hE⟩:=hrel;by_cases h0:i=n
  ·subst h0;go_wp2;go_ret;exact⟨_,rfl,Ab,hE⟩
  ·have A3:i<n:=by omega
   have Cu:(i:Int)<(n:Int):=by omega
   have hs:=hE.size;have H3:Hid (upL (i+1)=upL i++[(i:Int)]):=by show _=_;simp[upL,List.range_succ]
   obtain⟨l,hl⟩:∃l,l=upL i:=⟨_,rfl⟩;have Nn:l.length=i:=by rw[hl];simp[upL]
   rw[<-hl] at Ab H3;clear hl
   go_wp2_with (
    at_builtin
    refine wpList_append_own _ rfl _ _ _ rfl N 3 Tryz.t3 (.int .i64 0) 1 8 u27 i3 t3z t3s t3b rfl (by omega) _ _ _ rfl (Ab.alloc _) ⟨wr.heap.size,0,none⟩ 1 1 [.int .i64 i] rfl rfl (Z1N _ _ _) (by intro u hu;simp at hu;subst hu;rfl) (by(try simp[maxLen]);omega) (by(try simp);omega) (by(try simp only[Z2]);omega) ?_;intro v' w3 Al Aa _;have Ah:Ext w w3:=(hE.alloc _).grown Aa (fun k hk=>by have:=(Ab.lt k hk).1;omega))
   go_roundw
   case rel=>exact⟨i+1,by omega,by push_cast;rfl,by rw[H3.out];simpa[OwnI] using Al,Ah⟩
   case measure=>simp[intOf];omega
theorem Zg0{r0 r1 r2 r3:Int}{S:List Rs}{d:Int}{t:List Int}{j:Int}(h:t≠[]):Z57 r0 r1 r2 r3 S d (t++[j])=ZaA (Z57 r0 r1 r2 r3 S d t) (fromS r0 r1 r2 r3 S d j):=by
 cases t with
 |nil=>exact absurd rfl h
 |cons i t=>rw[List.cons_append,Z57,Z57,List.foldl_append];rfl
theorem Zg1(r0 r1 r2 r3:Int)(base:Option Addr)(n cap:Nat)(S:List Rs)(bl:Option Addr)(k cl:Nat)(l:List Int)(d:Int)(w:World)(A0:S.length=n)(hn:n<=20)(hk:l.length=k)(Sg:k<=20)(Pf:0<k)(Aq:∀j∈l,0<=j/\j<(n:Int))(hS:RawS w base S)(hl:RawI w bl l):
 Calls prog 102 #[.agg #[.int .i64 r0,.int .i64 r1,.int .i64 r2,.int .i64 r3,.slice base n cap],.slice bl k cl,.int .i64 d] w fun e w'=>e= .returned (.agg #[.int .i64 (Z57 r0 r1 r2 r3 S d l).1,.int .i64 (Z57 r0 r1 r2 r3 S d l).2])/\Ext w w':=by
 obtain⟨j,hj⟩:∃j,l[0]? =some j:=⟨_,List.getElem?_eq_getElem (by omega)⟩;have Ho:=Aq j (List.mem_of_getElem? hj);obtain⟨J,rfl⟩:=Int.eq_ofNat_of_zero_le Ho.1;have hJn:J<n:=by omega
 have P7:(J:Int)<(n:Int):=by omega
 obtain⟨s,hs⟩:∃s,S[J]? =some s:=⟨_,List.getElem?_eq_getElem (by omega)⟩;obtain⟨B0,O0,rfl,hB0,B8⟩:=hl 0 _ hj;obtain⟨BS,OS,rfl,hBS,sh⟩:=hS J s hs;have HF:Hid (Z57 r0 r1 r2 r3 S d (l.take 1)=Zdx r0 r1 r2 r3 s d):=by
  show _=_;cases l with
  |nil=>simp at hj
  |cons x t=>
   simp at hj;subst hj;simp[Z57,fromS,hs]
 have I6:=fun W=>ZfX r0 r1 r2 r3 d s W
 obtain⟨⟨fa,fb⟩,HF0⟩:∃v,Zdx r0 r1 r2 r3 s d=v:=⟨_,rfl⟩;rw[HF0] at I6;have H1:Hid (Z57 r0 r1 r2 r3 S d (l.take 1)=(fa,fb)):=HF.out.trans HF0;replace A0:Hid (S.length=n):=A0;replace hk:Hid (l.length=k):=hk;replace Aq:Hid (∀j∈l,0<=j/\j<(n:Int)):=Aq;have Dt:Hid (RawS w (some ⟨BS,OS,none⟩) S):=hS;have Ew:Hid (RawI w (some ⟨B0,O0,none⟩) l):=hl;clear hj hs HF0 hS hl Ho;have Af:=((Ext.rfl' w).alloc (.cells #[.int .i64 r0,.int .i64 r1,.int .i64 r2,.int .i64 r3,.slice (some ⟨BS,OS,none⟩) n cap] 70)).alloc (.cells #[.int .i64 0,.int .i64 0] 48);have hb:((w.alloc (.cells #[.int .i64 r0,.int .i64 r1,.int .i64 r2,.int .i64 r3,.slice (some ⟨BS,OS,none⟩) n cap] 70)).alloc (.cells #[.int .i64 0,.int .i64 0] 48)).heap[w.heap.size]? =some (.cells #[.int .i64 r0,.int .i64 r1,.int .i64 r2,.int .i64 r3,.slice (some ⟨BS,OS,none⟩) n cap] 70):=by
  simp only[Z3,Z2];rw[if_neg (by omega),if_pos trivial]
 have hz:((w.alloc (.cells #[.int .i64 r0,.int .i64 r1,.int .i64 r2,.int .i64 r3,.slice (some ⟨BS,OS,none⟩) n cap] 70)).alloc (.cells #[.int .i64 0,.int .i64 0] 48)).heap[w.heap.size+1]? =some (.cells #[.int .i64 0,.int .i64 0] 48):=by
  simp only[Z3,Z2];rw[if_pos trivial]
 go_enter func102,ntmps102;go_wp2_with fail;generalize World.alloc _ _=w1 at Af hb hz⊢;replace B8:w1.cell? ⟨B0,O0+0,none⟩=some (.int .i64 J):=Af.cellS B8;rw[Nat.add_zero] at B8;have sh:ShotAt w1 BS (OS+J*5) s.a s.m s.M s.wi s.li:=⟨Af.cellS sh.c0,Af.cellS sh.c1,Af.cellS sh.c2,Af.cellS sh.c3,Af.cellS sh.c4⟩;have q0:=Z0 hb 0;have q1:=Z0 hb 1;have q2:=Z0 hb 2;have q3:=Z0 hb 3;have q4:=Z0 hb 4;simp only[List.getElem?_toArray,List.getElem?_cons_zero,List.getElem?_cons_succ] at q0 q1 q2 q3 q4;have g0:=Zet q0;have g1:=Zet q1;have g2:=Zet q2;have g3:=Zet q3;have g4:=Zet q4;have k0:=Zet sh.c0;have k1:=Zet sh.c1;have k2:=Zet sh.c2;have k3:=Zet sh.c3;have k4:=Zet sh.c4;have kc:=Zet B8;refine Zfn 12 11 7 [0,1,2,3,4,5,6,7,8,9,10] (.cells #[.int .i64 0,.int .i64 0] 48) (by kernel_rfl) rfl (by kernel_rfl) rfl rfl (fun a W=>by simp[go_sem,execOp,Act.eval]) ?_;refine Zfj [0,1,2,3,4,5,6,7,8,9] (by kernel_rfl) rfl rfl (by kernel_rfl) ?_;simp only[ZeD,List.getElem?_cons_succ,List.getElem?_cons_zero,List.cons_append,List.nil_append]
 repeat (go_big_quiet_step (fail))
 refine wpQuiet_nil ?_;refine Zfr 10 (f:=147) (args:= #[.agg #[.int .i64 r0,.int .i64 r1,.int .i64 r2,.int .i64 r3],.agg #[.int .i64 s.a,.int .i64 s.m,.int .i64 s.M,.int .i64 s.wi,.int .i64 s.li],.int .i64 d]) (v:= .agg #[.int .i64 fa,.int .i64 fb]) (by kernel_rfl) rfl rfl rfl (by kernel_rfl) rfl (fun W=>by simp[go_sem,execOp,Act.eval]) (fun W _=>I6 W) ?_;go_simp;refine Zfq (by kernel_rfl) (fun W hW b hA C3 Ad=> ?_);obtain⟨bx,rfl⟩:∃bx,bx=b:=⟨_,rfl⟩;have Am:=hW;clear hW;go_simp;refine Zfp 1 (by kernel_rfl) (fun W hW=> ?_);simp only[List.drop_succ_cons,List.drop_zero];replace Ad:=hW.get Ad;have Az:=(Af.trans Am).trans hW;have Ca:w.heap.size<=bx:=by have h1:=hA;have h2:=Af.size;omega
 have Ki:=Z5 hb;have G1:=Z5 hz;have hP:=set_pair Ad (.int .i64 fa) (.int .i64 fb);have hC:=Zfl (i:=0) (j:=1) (u:= .int .i64 fa) (v:= .int .i64 fb) (show w.heap.size≠bx by omega) (hW.get (Am.get hb));have hZ:=Zfl (i:=0) (j:=1) (u:= .int .i64 fa) (v:= .int .i64 fb) (show w.heap.size+1≠bx by omega) (hW.get (Am.get hz));have Ju:=(Az.setCell ⟨bx,0,none⟩ (.int .i64 fa) Ca).setCell ⟨bx,1,none⟩ (.int .i64 fb) Ca;have O4:w.heap.size+1≠bx:=by omega
 have Xf:w.heap.size≠bx:=by omega
 have g:=Zc Ad;have g0:=g.1;have g1:=g.2.1;have g2:=g.2.2.1;have g3:=g.2.2.2;clear g Az Af Am hW hA C3 hb hz Ki G1 q0 q1 q2 q3 q4 k0 k1 k2 k3 k4 kc sh B8;go_wp2_with fail;generalize (W.setCell ⟨bx,0,none⟩ (.int .i64 fa)).setCell ⟨bx,1,none⟩ (.int .i64 fb)=Y at*;clear g0 g1 g2 g3 Ad;refine Zfm ?_;go_wp2_with fail;go_loopw [8] (fun v wr=>∃i:Nat,1<=i/\i<=k/\v= .int .i64 i/\Ext w wr/\wr.heap[w.heap.size]? =some (.cells #[.int .i64 r0,.int .i64 r1,.int .i64 r2,.int .i64 r3,.slice (some ⟨BS,OS,none⟩) n cap] 70)/\wr.heap[w.heap.size+1]? =some (.cells #[.int .i64 0,.int .i64 0] 48)/\∃pa pb,wr.heap[bx]? =some (.cells #[.int .i64 pa,.int .i64 pb] 48)/\Hid (Z57 r0 r1 r2 r3 S d (l.take i)=(pa,pb))) (fun v _=>k - (intOf v).toNat)
 case atStart=>exact⟨1,Nat.le_refl _,by omega,rfl,Ju,hC,hZ,fa,fb,hP,H1⟩
 case round=>
  obtain⟨i,Ms,hi,rfl,hE,hb,hz,pa,pb,hp,HP⟩:=hrel;clear Ju hC hZ hP H1 HF;have O4:w.heap.size+1≠bx:=O4;by_cases R2:i=k
  ·subst R2;have HR:Hid (Z57 r0 r1 r2 r3 S d l=(pa,pb)):=by show _=_;rw[<-HP.out,List.take_of_length_le (by have:=hk.out;omega)]
   have y:=Zc hp;have y0:=y.1;have y1:=y.2.1;have z:=Zc hz;have z0:=z.1;have z1:=z.2.1;have z2:=z.2.2.1;have z3:=z.2.2.2;clear y z HP Aq Dt Ew;go_wp2;have h2:w.heap.size<=w.heap.size+1:=by omega
   refine bodyPost_ret (v:= .agg #[.int .i64 (Z57 r0 r1 r2 r3 S d l).1,.int .i64 (Z57 r0 r1 r2 r3 S d l).2]) ((Z07 rfl _ _ _).trans ?_) rfl ⟨rfl,(hE.setCell _ _ h2).setCell _ _ h2⟩;have hq:=Zc (set_pair hz (.int .i64 pa) (.int .i64 pb));rw[HR.out];simp[go_sem,hq.1,hq.2.1]
  ·have A3:i<k:=by omega
   have Cu:(i:Int)<(k:Int):=by omega
   obtain⟨j,hj⟩:∃j,l[i]? =some j:=⟨_,List.getElem?_eq_getElem (by have:=hk.out;omega)⟩;have Ho:=Aq.out j (List.mem_of_getElem? hj);obtain⟨J,rfl⟩:=Int.eq_ofNat_of_zero_le Ho.1;have hJn:J<n:=by omega
   have P7:(J:Int)<(n:Int):=by omega
   obtain⟨s,hs⟩:∃s,S[J]? =some s:=⟨_,List.getElem?_eq_getElem (by have:=A0.out;omega)⟩;have HN:Hid (Z57 r0 r1 r2 r3 S d (l.take (i+1))=ZaA (pa,pb) (Zdx r0 r1 r2 r3 s d)):=by
    show _=_;rw[Z0G hj,Zg0 (by rw[ne_eq,List.take_eq_nil_iff];rintro(h|h);omega;subst h;simp at hj),HP.out,fromS,Int.toNat_natCast,hs]
   obtain⟨bb,ob,Xg,B6,hcj⟩:=Ew.out i _ hj;obtain⟨bc,oc,Xh,Ai,sh⟩:=Dt.out J s hs;obtain⟨rfl,rfl⟩:B0=bb/\O0=ob:=by simpa using Xg
   obtain⟨rfl,rfl⟩:BS=bc/\OS=oc:=by simpa using Xh
   have I6:=fun W=>ZfX r0 r1 r2 r3 d s W
   obtain⟨⟨fa,fb⟩,HF0⟩:∃v,Zdx r0 r1 r2 r3 s d=v:=⟨_,rfl⟩;rw[HF0] at HN I6;clear HF0 hj hs HP;have hc:=hE.cellS hcj;have s0:=hE.cellS sh.c0;have s1:=hE.cellS sh.c1;have s2:=hE.cellS sh.c2;have s3:=hE.cellS sh.c3;have s4:=hE.cellS sh.c4;have q0:=Z0 hb 0;have q1:=Z0 hb 1;have q2:=Z0 hb 2;have q3:=Z0 hb 3;have q4:=Z0 hb 4;simp only[List.getElem?_toArray,List.getElem?_cons_zero,List.getElem?_cons_succ] at q0 q1 q2 q3 q4;have y:=Zc hp;have y0:=y.1;have y1:=y.2.1;have g0:=Zet q0;have g1:=Zet q1;have g2:=Zet q2;have g3:=Zet q3;have g4:=Zet q4;have kc:=Zet hc;have k0:=Zet s0;have k1:=Zet s1;have k2:=Zet s2;have k3:=Zet s3;have k4:=Zet s4;have ky0:=Zet y0;have ky1:=Zet y1;clear y sh hcj;go_wp2_with fail;refine ZeG 14 (by kernel_rfl) ?_;refine ZeB [0,1,2,3,4,5,6,7,8,9,10,11] (by kernel_rfl) (by kernel_rfl) ?_;simp only[ZeD,List.getElem?_cons_succ,List.getElem?_cons_zero,List.cons_append,List.nil_append]
   repeat (go_big_quiet_step (fail))
   refine wpQuiet_nil ?_;refine ZeX 12 (f:=147) (args:= #[.agg #[.int .i64 r0,.int .i64 r1,.int .i64 r2,.int .i64 r3],.agg #[.int .i64 s.a,.int .i64 s.m,.int .i64 s.M,.int .i64 s.wi,.int .i64 s.li],.int .i64 d]) (v:= .agg #[.int .i64 fa,.int .i64 fb]) (by kernel_rfl) rfl (by kernel_rfl) rfl (fun W=>by simp[go_sem,execOp,Act.eval]) (fun W _=>I6 W) ?_;go_simp;refine ZeX 13 (f:=46) (args:= #[.agg #[.int .i64 pa,.int .i64 pb],.agg #[.int .i64 fa,.int .i64 fb]]) (v:= .agg #[.int .i64 (max pa fa),.int .i64 (min pb fb)]) (by kernel_rfl) rfl (by kernel_rfl) rfl (fun W=>by simp[go_sem,execOp,Act.eval]) (fun W _=>Zg5 pa pb fa fb W) ?_;go_simp;refine Zfp 1 (by kernel_rfl) (fun W hW=> ?_);simp only[List.drop_succ_cons,List.drop_zero];have Ah:=hE.trans hW;replace hb:=hW.get hb;replace hz:=hW.get hz;replace hp:=hW.get hp;have Ki:=Z5 hb;have hP:=set_pair hp (.int .i64 (max pa fa)) (.int .i64 (min pb fb));have hC:=Zfl (i:=0) (j:=1) (u:= .int .i64 (max pa fa)) (v:= .int .i64 (min pb fb)) Xf hb;have hZ:=Zfl (i:=0) (j:=1) (u:= .int .i64 (max pa fa)) (v:= .int .i64 (min pb fb)) O4 hz;have Ju:=(Ah.setCell ⟨bx,0,none⟩ (.int .i64 (max pa fa)) Ca).setCell ⟨bx,1,none⟩ (.int .i64 (min pb fb)) Ca;have g:=Zc hp;have p0:=g.1;have p1:=g.2.1;have p2:=g.2.2.1;have p3:=g.2.2.2
   clear g q0 q1 q2 q3 q4 g0 g1 g2 g3 g4 kc k0 k1 k2 k3 k4 ky0 ky1 s0 s1 s2 s3 s4 hc y0 y1 Ah hE hW hb hz;go_wp2_with fail;refine Zfm ?_;go_wp2_with fail;exact⟨⟨i+1,by omega,by omega,by push_cast;rfl,Ju,hC,hZ,_,_,hP,HN⟩,by simp[intOf];omega⟩
def Zg6(r0 r1 r2 r3:Int)(S:List Rs)(l:List Int)(i:Int):Bool:=match S[i.toNat]? with
 |some s=>decide ((Z57 r0 r1 r2 r3 S s.a l).1<=(Z57 r0 r1 r2 r3 S s.a l).2)
 |none=>false
theorem Zg2(r0 r1 r2 r3:Int)(base:Option Addr)(n cap:Nat)(S:List Rs)(bl:Option Addr)(k cl:Nat)(l:List Int)(w:World)(A0:S.length=n)(hn:n<=20)(hk:l.length=k)(Sg:k<=20)(Aq:∀j∈l,0<=j/\j<(n:Int))(hS:RawS w base S)(hl:RawI w bl l):
 Calls prog 43 #[.agg #[.int .i64 r0,.int .i64 r1,.int .i64 r2,.int .i64 r3,.slice base n cap],.slice bl k cl] w fun e w'=>e= .returned (.bool (Z20 r0 r1 r2 r3 S l))/\Ext w w':=by
 have H0:Hid (Z20 r0 r1 r2 r3 S l=(l.drop 0).all (Zg6 r0 r1 r2 r3 S l)):=rfl;have Au:=(Ext.rfl' w).alloc (.cells #[.int .i64 r0,.int .i64 r1,.int .i64 r2,.int .i64 r3,.slice base n cap] 70);have Ek:(w.alloc (.cells #[.int .i64 r0,.int .i64 r1,.int .i64 r2,.int .i64 r3,.slice base n cap] 70)).heap[w.heap.size]? =some (.cells #[.int .i64 r0,.int .i64 r1,.int .i64 r2,.int .i64 r3,.slice base n cap] 70):=by rw[Z3,if_pos rfl]
 have J7:=fun(Pf:0<k) d W (hW:Ext w W)=>Zg1 r0 r1 r2 r3 base n cap S bl k cl l d W A0 hn hk Sg Pf Aq (hS.ext hW) (hl.ext hW)
 replace A0:Hid (S.length=n):=A0;replace hk:Hid (l.length=k):=hk;replace Aq:Hid (∀j∈l,0<=j/\j<(n:Int)):=Aq;have Dt:Hid (RawS w base S):=hS;have Ew:Hid (RawI w bl l):=hl;clear hS hl;go_enter func43,ntmps43;go_wp2_with fail;go_loopw [5] (fun v wr=>∃i:Nat,i<=k/\v= .int .i64 i/\Ext w wr/\wr.heap[w.heap.size]? =some (.cells #[.int .i64 r0,.int .i64 r1,.int .i64 r2,.int .i64 r3,.slice base n cap] 70)/\Hid (Z20 r0 r1 r2 r3 S l=(l.drop i).all (Zg6 r0 r1 r2 r3 S l))) (fun v _=>k - (intOf v).toNat)
 case atStart=>exact⟨0,Nat.zero_le _,rfl,Au,Ek,H0⟩
 case round=>
  clear Au Ek H0;obtain⟨i,hi,rfl,hE,hb,HP⟩:=hrel;by_cases R2:i=k
  ·subst R2;have HR:Hid (Z20 r0 r1 r2 r3 S l=true):=by show _=_;rw[HP.out,List.drop_of_length_le (by have:=hk.out;omega)];rfl
   clear HP J7 Aq Dt Ew;go_wp2;go_ret;exact⟨ZP (a:=true) HR.out.symm,hE⟩
  ·have A3:i<k:=by omega
   have Cu:(i:Int)<(k:Int):=by omega
   obtain⟨j,hj⟩:∃j,l[i]? =some j:=⟨_,List.getElem?_eq_getElem (by have:=hk.out;omega)⟩;have Ho:=Aq.out j (List.mem_of_getElem? hj);obtain⟨J,rfl⟩:=Int.eq_ofNat_of_zero_le Ho.1;have hJn:J<n:=by omega
   have P7:(J:Int)<(n:Int):=by omega
   obtain⟨s,hs⟩:∃s,S[J]? =some s:=⟨_,List.getElem?_eq_getElem (by have:=A0.out;omega)⟩;obtain⟨B0,O0,rfl,hB0,B8⟩:=Ew.out i _ hj;obtain⟨BS,OS,rfl,hBS,sh⟩:=Dt.out J s hs;have C9:=J7 (by omega) s.a;have HN:Hid (Z20 r0 r1 r2 r3 S l=(decide ((Z57 r0 r1 r2 r3 S s.a l).1<=(Z57 r0 r1 r2 r3 S s.a l).2)&&(l.drop (i+1)).all (Zg6 r0 r1 r2 r3 S l))):=by
    show _=_;rw[HP.out,Z0b hj,List.all_cons,Zg6,Int.toNat_natCast,hs]
   obtain⟨⟨pa,pb⟩,HF0⟩:∃v,Z57 r0 r1 r2 r3 S s.a l=v:=⟨_,rfl⟩;rw[HF0] at HN C9;have hc:=hE.cellS B8;have s0:=hE.cellS sh.c0;clear HF0 hj hs HP J7 sh B8 Ho Aq Dt Ew;have q0:=Z0 hb 0;have q1:=Z0 hb 1;have q2:=Z0 hb 2;have q3:=Z0 hb 3;have q4:=Z0 hb 4;simp only[List.getElem?_toArray,List.getElem?_cons_zero,List.getElem?_cons_succ] at q0 q1 q2 q3 q4;have g0:=Zet q0;have g1:=Zet q1;have g2:=Zet q2;have g3:=Zet q3;have g4:=Zet q4;have kc:=Zet hc;have ks:=Zet s0;go_wp2_with fail;refine Zfn 13 12 6 [0,1,2,3,4,5,6,7,8,9,10,11] (.cells #[.int .i64 0,.int .i64 0] 48) (by kernel_rfl) rfl (by kernel_rfl) rfl rfl (fun a W=>by simp[go_sem,execOp,Act.eval]) ?_;refine Zfj [0,1,2,3,4,5,6,7,8,9,10] (by kernel_rfl) rfl rfl (by kernel_rfl) ?_;simp only[ZeD,List.getElem?_cons_succ,List.getElem?_cons_zero,List.cons_append,List.nil_append]
   repeat (go_big_quiet_step (fail))
   refine wpQuiet_nil ?_;refine Zfr 11 (f:=102) (args:= #[.agg #[.int .i64 r0,.int .i64 r1,.int .i64 r2,.int .i64 r3,.slice (some ⟨BS,OS,none⟩) n cap],.slice (some ⟨B0,O0,none⟩) k cl,.int .i64 s.a]) (v:= .agg #[.int .i64 pa,.int .i64 pb]) (by kernel_rfl) rfl rfl rfl (by kernel_rfl) rfl (fun W=>by simp[go_sem,execOp,Act.eval]) (fun W hW=>C9 W (hE.trans hW)) ?_;go_simp;refine Zfq (by kernel_rfl) (fun W hW b hA C3 Ad=> ?_);obtain⟨bx,rfl⟩:∃bx,bx=b:=⟨_,rfl⟩;have Am:=hW;clear hW;go_simp;refine Zfp 1 (by kernel_rfl) (fun W hW=> ?_);simp only[List.drop_succ_cons,List.drop_zero];replace Ad:=hW.get Ad;have Az:=(hE.trans Am).trans hW;have Ca:w.heap.size<=bx:=by have h1:=hA;have h2:=hE.size;omega
   have Ki:=Z5 hb;have hP:=set_pair Ad (.int .i64 pa) (.int .i64 pb);have hC:=Zfl (i:=0) (j:=1) (u:= .int .i64 pa) (v:= .int .i64 pb) (show w.heap.size≠bx by omega) (hW.get (Am.get hb));have Ju:=(Az.setCell ⟨bx,0,none⟩ (.int .i64 pa) Ca).setCell ⟨bx,1,none⟩ (.int .i64 pb) Ca;have g:=Zc Ad;have p0:=g.1;have p1:=g.2.1;have p2:=g.2.2.1;have p3:=g.2.2.2;clear g Az hE Am hW hA C3 hb Ki Ca q0 q1 q2 q3 q4 g0 g1 g2 g3 g4 ks kc s0 hc C9;go_wp2_with fail;generalize (W.setCell ⟨bx,0,none⟩ (.int .i64 pa)).setCell ⟨bx,1,none⟩ (.int .i64 pb)=Y at*;clear p0 p1 p2 p3 Ad;refine Zfm ?_;have y:=Zc hP;have y0:=y.1;have y1:=y.2.1;clear y;by_cases Hn:pb<pa
   ·have B9:decide (pa<=pb)=false:=(by simp;omega);go_wp2_with fail;go_ret;exact⟨ZP (a:=false) (by rw[HN.out,B9];rfl),Ju⟩
   ·have B9:decide (pa<=pb)=true:=(by simp;omega);have HN2:Hid (Z20 r0 r1 r2 r3 S l=(l.drop (i+1)).all (Zg6 r0 r1 r2 r3 S l)):=(by show _=_;rw[HN.out,B9];rfl);clear B9 HN;go_wp2_with fail;exact⟨⟨i+1,by omega,by push_cast;rfl,Ju,hC,HN2⟩,by simp[intOf];omega⟩
theorem Zgh(s:Rs):okS s=(inR s.a 0 90&&decide (0<=s.m/\s.m<=s.M/\s.M<=99999)&&inR s.wi 0 9&&inR s.li 0 9):=rfl
theorem Zga(r0 r1 r2 r3:Int):Z5y r0 r1 r2 r3=if inR r0 0 999&&inR r1 0 999&&inR r2 0 999&&inR r3 0 999&&decide (r0<=r1) then 0 else 1:=rfl
theorem ZfQ(r0 r1 r2 r3:Int)(base:Option Addr)(n cap:Nat)(S:List Rs)(w:World)(A0:S.length=n)(hS:RawS w base S):
 Calls prog 63 #[.agg #[.int .i64 r0,.int .i64 r1,.int .i64 r2,.int .i64 r3,.slice base n cap]] w fun e w'=>e= .returned (.int .i64 (ZC r0 r1 r2 r3 S))/\Ext w w':=by
 have H0:Hid (ZC r0 r1 r2 r3 S=if inR r0 0 999&&inR r1 0 999&&inR r2 0 999&&inR r3 0 999&&decide (r0<=r1) then(if 8<n then 2 else if(S.drop 0).all okS then 0 else 1) else 1):=by
  show _=_;rw[ZC,firstV,Zga];by_cases h:(inR r0 0 999&&inR r1 0 999&&inR r2 0 999&&inR r3 0 999&&decide (r0<=r1))=true
  ·rw[if_pos h,if_pos h,if_pos rfl,firstV,Z23,A0];by_cases h8:8<n
   ·simp[h8]
   ·rw[if_neg h8,List.drop_zero];by_cases ha:S.all okS=true
    ·simp[h8,ha,firstV]
    ·simp[h8,ha]
  ·rw[if_neg h,if_neg h,if_neg (by decide)]
 have Bz:=fun W=>Zgc r0 0 999 W;have Ck:=fun W=>Zgc r1 0 999 W;have Cp:=fun W=>Zgc r2 0 999 W;have Ej:=fun W=>Zgc r3 0 999 W
 generalize inR r0 0 999=b0 at*;generalize inR r1 0 999=b1 at*;generalize inR r2 0 999=b2 at*;generalize inR r3 0 999=b3 at*;have Au:=((Ext.rfl' w).alloc (.cells #[.int .i64 r0,.int .i64 r1,.int .i64 r2,.int .i64 r3,.slice base n cap] 70)).alloc (.cells #[.int .i64 r0,.int .i64 r1,.int .i64 r2,.int .i64 r3] 67);have Ek:((w.alloc (.cells #[.int .i64 r0,.int .i64 r1,.int .i64 r2,.int .i64 r3,.slice base n cap] 70)).alloc (.cells #[.int .i64 r0,.int .i64 r1,.int .i64 r2,.int .i64 r3] 67)).heap[w.heap.size]? =some (.cells #[.int .i64 r0,.int .i64 r1,.int .i64 r2,.int .i64 r3,.slice base n cap] 70):=by
  simp only[Z3,Z2];rw[if_neg (by omega),if_pos trivial]
 replace A0:Hid (S.length=n):=A0;have Dt:Hid (RawS w base S):=hS;clear hS;cases b0 with
 |false=>(
   have H1:Hid (ZC r0 r1 r2 r3 S=1):=by show _=_;rw[H0.out];simp
   clear H0;go_enter func63,ntmps63;go_wp2_with (first|(go_at_call 93;(with_reducible refine(Bz _).mono ?_);rintro e w2 ⟨rfl,rfl⟩)|(go_at_call 93;(with_reducible refine(Ck _).mono ?_);rintro e w2 ⟨rfl,rfl⟩)|(go_at_call 93;(with_reducible refine(Cp _).mono ?_);rintro e w2 ⟨rfl,rfl⟩)|(go_at_call 93;(with_reducible refine(Ej _).mono ?_);rintro e w2 ⟨rfl,rfl⟩));go_ret;exact⟨ZK (a:=1) H1.out.symm,Au⟩)
 |true=>
  cases b1 with
  |false=>(
    have H1:Hid (ZC r0 r1 r2 r3 S=1):=(by show _=_;rw[H0.out];simp);clear H0;go_enter func63,ntmps63;go_wp2_with (first|(go_at_call 93;(with_reducible refine(Bz _).mono ?_);rintro e w2 ⟨rfl,rfl⟩)|(go_at_call 93;(with_reducible refine(Ck _).mono ?_);rintro e w2 ⟨rfl,rfl⟩)|(go_at_call 93;(with_reducible refine(Cp _).mono ?_);rintro e w2 ⟨rfl,rfl⟩)|(go_at_call 93;(with_reducible refine(Ej _).mono ?_);rintro e w2 ⟨rfl,rfl⟩));go_ret;exact⟨ZK (a:=1) H1.out.symm,Au⟩)
  |true=>
   cases b2 with
   |false=>(
     have H1:Hid (ZC r0 r1 r2 r3 S=1):=(by show _=_;rw[H0.out];simp);clear H0;go_enter func63,ntmps63;go_wp2_with (first|(go_at_call 93;(with_reducible refine(Bz _).mono ?_);rintro e w2 ⟨rfl,rfl⟩)|(go_at_call 93;(with_reducible refine(Ck _).mono ?_);rintro e w2 ⟨rfl,rfl⟩)|(go_at_call 93;(with_reducible refine(Cp _).mono ?_);rintro e w2 ⟨rfl,rfl⟩)|(go_at_call 93;(with_reducible refine(Ej _).mono ?_);rintro e w2 ⟨rfl,rfl⟩));go_ret;exact⟨ZK (a:=1) H1.out.symm,Au⟩)
   |true=>
    cases b3 with
    |false=>(
      have H1:Hid (ZC r0 r1 r2 r3 S=1):=(by show _=_;rw[H0.out];simp);clear H0;go_enter func63,ntmps63;go_wp2_with (first|(go_at_call 93;(with_reducible refine(Bz _).mono ?_);rintro e w2 ⟨rfl,rfl⟩)|(go_at_call 93;(with_reducible refine(Ck _).mono ?_);rintro e w2 ⟨rfl,rfl⟩)|(go_at_call 93;(with_reducible refine(Cp _).mono ?_);rintro e w2 ⟨rfl,rfl⟩)|(go_at_call 93;(with_reducible refine(Ej _).mono ?_);rintro e w2 ⟨rfl,rfl⟩));go_ret;exact⟨ZK (a:=1) H1.out.symm,Au⟩)
    |true=>
     by_cases hr:r0<=r1
     ·have Si:decide (r0<=r1)=true:=decide_eq_true hr;rw[Si] at H0;simp only[Bool.and_self,if_true] at H0;clear Si;by_cases h8:8<n
      ·have h8i:(8:Int)<(n:Int):=(by omega);have H1:Hid (ZC r0 r1 r2 r3 S=2):=(by show _=_;rw[H0.out,if_pos h8]);clear H0 h8;go_enter func63,ntmps63;go_wp2_with (first|(go_at_call 93;(with_reducible refine(Bz _).mono ?_);rintro e w2 ⟨rfl,rfl⟩)|(go_at_call 93;(with_reducible refine(Ck _).mono ?_);rintro e w2 ⟨rfl,rfl⟩)|(go_at_call 93;(with_reducible refine(Cp _).mono ?_);rintro e w2 ⟨rfl,rfl⟩)|(go_at_call 93;(with_reducible refine(Ej _).mono ?_);rintro e w2 ⟨rfl,rfl⟩));go_ret;exact⟨ZK (a:=2) H1.out.symm,Au⟩
      ·have h8i:(n:Int)<=8:=(by omega);have H1:Hid (ZC r0 r1 r2 r3 S=if(S.drop 0).all okS then 0 else 1):=(by show _=_;rw[H0.out,if_neg h8]);clear H0 h8;go_enter func63,ntmps63;go_wp2_with (first|(go_at_call 93;(with_reducible refine(Bz _).mono ?_);rintro e w2 ⟨rfl,rfl⟩)|(go_at_call 93;(with_reducible refine(Ck _).mono ?_);rintro e w2 ⟨rfl,rfl⟩)|(go_at_call 93;(with_reducible refine(Cp _).mono ?_);rintro e w2 ⟨rfl,rfl⟩)|(go_at_call 93;(with_reducible refine(Ej _).mono ?_);rintro e w2 ⟨rfl,rfl⟩));clear Bz Ck Cp Ej;go_loopw [4] (fun v wr=>∃i:Nat,i<=n/\v= .int .i64 i/\Ext w wr/\wr.heap[w.heap.size]? =some (.cells #[.int .i64 r0,.int .i64 r1,.int .i64 r2,.int .i64 r3,.slice base n cap] 70)/\Hid (ZC r0 r1 r2 r3 S=if(S.drop i).all okS then 0 else 1)) (fun v _=>n - (intOf v).toNat)
       case atStart=>exact⟨0,Nat.zero_le _,rfl,Au,Ek,H1⟩
       case round=>
        clear Au Ek H1;obtain⟨i,hi,rfl,hE,hb,HP⟩:=hrel;have q4:=Z0 hb 4;simp only[List.getElem?_toArray,List.getElem?_cons_zero,List.getElem?_cons_succ] at q4;by_cases Aq:i=n
        ·subst Aq;have HR:Hid (ZC r0 r1 r2 r3 S=0):=(by show _=_;rw[HP.out,List.drop_of_length_le (by have:=A0.out;omega)];rfl);clear HP;go_wp2;go_ret;exact⟨ZK (a:=0) HR.out.symm,hE⟩
        ·have A3:i<n:=(by omega);have Cu:(i:Int)<(n:Int):=(by omega);obtain⟨s,hs⟩:∃s,S[i]? =some s:=⟨_,List.getElem?_eq_getElem (by have:=A0.out;omega)⟩;obtain⟨BS,OS,rfl,hBS,sh⟩:=Dt.out i s hs;have HN:Hid (ZC r0 r1 r2 r3 S=if inR s.a 0 90&&decide (0<=s.m/\s.m<=s.M/\s.M<=99999)&&inR s.wi 0 9&&inR s.li 0 9&&(S.drop (i+1)).all okS then 0 else 1):=(by show _=_;rw[HP.out,Z0b hs,List.all_cons,Zgh]);have s0:=hE.cellS sh.c0;have s1:=hE.cellS sh.c1;have s2:=hE.cellS sh.c2;have s3:=hE.cellS sh.c3;have s4:=hE.cellS sh.c4;have Bz:=fun W=>Zgc s.a 0 90 W;have Cp:=fun W=>Zgc s.wi 0 9 W;have Ej:=fun W=>Zgc s.li 0 9 W
         have Ck:=fun W=>Z2e s.m s.M 0 99999 W
         clear HP hs sh Dt;generalize inR s.a 0 90=b0 at*;generalize decide (0<=s.m/\s.m<=s.M/\s.M<=99999)=b1 at*;generalize inR s.wi 0 9=b2 at*;generalize inR s.li 0 9=b3 at*;have A8:=hE.alloc (.cells #[.int .i64 s.a,.int .i64 s.m,.int .i64 s.M,.int .i64 s.wi,.int .i64 s.li] 80);have Ai:=((Ext.rfl' wr).alloc (.cells #[.int .i64 s.a,.int .i64 s.m,.int .i64 s.M,.int .i64 s.wi,.int .i64 s.li] 80)).get hb;have Av:(wr.alloc (.cells #[.int .i64 s.a,.int .i64 s.m,.int .i64 s.M,.int .i64 s.wi,.int .i64 s.li] 80)).heap[wr.heap.size]? =some (.cells #[.int .i64 s.a,.int .i64 s.m,.int .i64 s.M,.int .i64 s.wi,.int .i64 s.li] 80):=(by rw[Z3,if_pos rfl]);cases b0 with
         |false=>(
           have HN2:Hid (ZC r0 r1 r2 r3 S=1):=(by show _=_;rw[HN.out];simp);clear HN;go_wp2_with (first|(go_at_call 93;(with_reducible refine(Bz _).mono ?_);rintro e w2 ⟨rfl,rfl⟩)|(go_at_call 95;(with_reducible refine(Ck _).mono ?_);rintro e w9 ⟨rfl,Bl⟩;replace A8:=A8.trans Bl;replace Ai:=Bl.get Ai;replace Av:=Bl.get Av;clear Bl;have y0:=Z0 Av 0;have y1:=Z0 Av 1;have y2:=Z0 Av 2;have y3:=Z0 Av 3;have y4:=Z0 Av 4;simp only[List.getElem?_toArray,List.getElem?_cons_zero,List.getElem?_cons_succ] at y0 y1 y2 y3 y4)|(go_at_call 93;(with_reducible refine(Cp _).mono ?_);rintro e w2 ⟨rfl,rfl⟩)|(go_at_call 93;(with_reducible refine(Ej _).mono ?_);rintro e w2 ⟨rfl,rfl⟩));go_ret;exact⟨ZK (a:=1) HN2.out.symm,A8⟩)
         |true=>
          cases b1 with
          |false=>(
            have HN2:Hid (ZC r0 r1 r2 r3 S=1):=(by show _=_;rw[HN.out];simp);clear HN;go_wp2_with (first|(go_at_call 93;(with_reducible refine(Bz _).mono ?_);rintro e w2 ⟨rfl,rfl⟩)|(go_at_call 95;(with_reducible refine(Ck _).mono ?_);rintro e w9 ⟨rfl,Bl⟩;replace A8:=A8.trans Bl;replace Ai:=Bl.get Ai;replace Av:=Bl.get Av;clear Bl;have y0:=Z0 Av 0;have y1:=Z0 Av 1;have y2:=Z0 Av 2;have y3:=Z0 Av 3;have y4:=Z0 Av 4;simp only[List.getElem?_toArray,List.getElem?_cons_zero,List.getElem?_cons_succ] at y0 y1 y2 y3 y4)|(go_at_call 93;(with_reducible refine(Cp _).mono ?_);rintro e w2 ⟨rfl,rfl⟩)|(go_at_call 93;(with_reducible refine(Ej _).mono ?_);rintro e w2 ⟨rfl,rfl⟩));go_ret;exact⟨ZK (a:=1) HN2.out.symm,A8⟩)
          |true=>
           cases b2 with
           |false=>(
             have HN2:Hid (ZC r0 r1 r2 r3 S=1):=(by show _=_;rw[HN.out];simp);clear HN;go_wp2_with (first|(go_at_call 93;(with_reducible refine(Bz _).mono ?_);rintro e w2 ⟨rfl,rfl⟩)|(go_at_call 95;(with_reducible refine(Ck _).mono ?_);rintro e w9 ⟨rfl,Bl⟩;replace A8:=A8.trans Bl;replace Ai:=Bl.get Ai;replace Av:=Bl.get Av;clear Bl;have y0:=Z0 Av 0;have y1:=Z0 Av 1;have y2:=Z0 Av 2;have y3:=Z0 Av 3;have y4:=Z0 Av 4;simp only[List.getElem?_toArray,List.getElem?_cons_zero,List.getElem?_cons_succ] at y0 y1 y2 y3 y4)|(go_at_call 93;(with_reducible refine(Cp _).mono ?_);rintro e w2 ⟨rfl,rfl⟩)|(go_at_call 93;(with_reducible refine(Ej _).mono ?_);rintro e w2 ⟨rfl,rfl⟩));go_ret;exact⟨ZK (a:=1) HN2.out.symm,A8⟩)
           |true=>
            cases b3 with
            |false=>(
              have HN2:Hid (ZC r0 r1 r2 r3 S=1):=(by show _=_;rw[HN.out];simp);clear HN;go_wp2_with (first|(go_at_call 93;(with_reducible refine(Bz _).mono ?_);rintro e w2 ⟨rfl,rfl⟩)|(go_at_call 95;(with_reducible refine(Ck _).mono ?_);rintro e w9 ⟨rfl,Bl⟩;replace A8:=A8.trans Bl;replace Ai:=Bl.get Ai;replace Av:=Bl.get Av;clear Bl;have y0:=Z0 Av 0;have y1:=Z0 Av 1;have y2:=Z0 Av 2;have y3:=Z0 Av 3;have y4:=Z0 Av 4;simp only[List.getElem?_toArray,List.getElem?_cons_zero,List.getElem?_cons_succ] at y0 y1 y2 y3 y4)|(go_at_call 93;(with_reducible refine(Cp _).mono ?_);rintro e w2 ⟨rfl,rfl⟩)|(go_at_call 93;(with_reducible refine(Ej _).mono ?_);rintro e w2 ⟨rfl,rfl⟩));go_ret;exact⟨ZK (a:=1) HN2.out.symm,A8⟩)
            |true=>
             have HN2:Hid (ZC r0 r1 r2 r3 S=if(S.drop (i+1)).all okS then 0 else 1):=(by show _=_;rw[HN.out];rfl);clear HN;go_wp2_with (first|(go_at_call 93;(with_reducible refine(Bz _).mono ?_);rintro e w2 ⟨rfl,rfl⟩)|(go_at_call 95;(with_reducible refine(Ck _).mono ?_);rintro e w9 ⟨rfl,Bl⟩;replace A8:=A8.trans Bl;replace Ai:=Bl.get Ai;replace Av:=Bl.get Av;clear Bl;have y0:=Z0 Av 0;have y1:=Z0 Av 1;have y2:=Z0 Av 2;have y3:=Z0 Av 3;have y4:=Z0 Av 4;simp only[List.getElem?_toArray,List.getElem?_cons_zero,List.getElem?_cons_succ] at y0 y1 y2 y3 y4)|(go_at_call 93;(with_reducible refine(Cp _).mono ?_);rintro e w2 ⟨rfl,rfl⟩)|(go_at_call 93;(with_reducible refine(Ej _).mono ?_);rintro e w2 ⟨rfl,rfl⟩));go_roundw
             case rel=>exact⟨i+1,by omega,by push_cast;rfl,A8,Ai,HN2⟩
             case measure=>simp[intOf];omega
     ·have Si:decide (r0<=r1)=false:=decide_eq_false hr;have hri:r1<r0:=(by omega);have H1:Hid (ZC r0 r1 r2 r3 S=1):=(by show _=_;rw[H0.out,Si];simp);clear H0 Si;go_enter func63,ntmps63;go_wp2_with (first|(go_at_call 93;(with_reducible refine(Bz _).mono ?_);rintro e w2 ⟨rfl,rfl⟩)|(go_at_call 93;(with_reducible refine(Ck _).mono ?_);rintro e w2 ⟨rfl,rfl⟩)|(go_at_call 93;(with_reducible refine(Cp _).mono ?_);rintro e w2 ⟨rfl,rfl⟩)|(go_at_call 93;(with_reducible refine(Ej _).mono ?_);rintro e w2 ⟨rfl,rfl⟩));go_ret;exact⟨ZK (a:=1) H1.out.symm,Au⟩
end Go.Proofs.Tryq
namespace Go.Proofs.Tryq
open Go Go.Nk Go.RowKit
set_option linter.all false
end Go.Proofs.Tryq
