import Derived.Test.YthahddndgbpooaaGreatDoorNkA
import Derived.Test.YthahddndgbpooaaGreatDoorNk28
import Derived.Conc.Beside
set_option linter.all false
set_option maxRecDepth 100000
set_option maxHeartbeats 4000000
open Go
variable {es':Array Event}{wr:Bool}{r0 r1 r2 r3:Int}{B' b:Nat}{p:Program}{t u:TypeId}{a0 a1 a2 a3 a4:Value}{w1:World}
namespace Go.Proofs.Tryq
section
open Go.Nk Go.RowKit
def bestV(x:Int×Int):Int×Int:=(wrap64 (x.2 - wrap64 ((wrap64 (wrap64 (x.2 - x.1)+1)).tdiv 2)),wrap64 ((wrap64 (wrap64 (x.2 - x.1)+1)).tdiv 2))
def Z8H(r0 r1 r2 r3:Int)(S:List Rs)(a:Int):Int×Int:=if ZA r0 r1 r2 r3 S a=0 then bestV (Z4L r0 r1 r2 r3 S a) else(0,0)
theorem Zc8(r0 r1 r2 r3:Int)(base:Option Addr)(n cap:Nat)(w:World)(at':Int)(S:List Rs)(A1:S.length=n)(hS:RawS w base S)(Eb:Most w):
 Calls prog 28 #[.agg #[r0,r1,r2,r3,.slice base n cap],at'] w λe w'=>
  e= .returned (.tuple #[.int .i64 (Z8H r0 r1 r2 r3 S at').1,.int .i64 (Z8H r0 r1 r2 r3 S at').2,.int .i64 (ZA r0 r1 r2 r3 S at')])/\Ext w w':=by
 go_enter fk Tryz.func28,Tryz.ntmps28;go_wp2_with fail;have Ab:Ext w _:=(Ext.rfl' w).alloc (.cells #[r0,r1,r2,r3,.slice base n cap] 31);have hb:(w.alloc (.cells #[r0,r1,r2,r3,.slice base n cap] 31)).heap[w.heap.size]? =some (.cells #[r0,r1,r2,r3,.slice base n cap] 31):=by
  simp only[Z3,Z2];rw[YZ trivial]
 generalize World.alloc _ _=w1 at Ab hb⊢;have hX:=Ext.rfl' w1;have q0:=Z0 hb 0;have q1:=Z0 hb 1;have q2:=Z0 hb 2;have q3:=Z0 hb 3;have q4:=Z0 hb 4;simp only[YC,YA,YB] at q0 q1 q2 q3 q4;have g0:=Zet q0;have g1:=Zet q1;have g2:=Zet q2;have g3:=Zet q3;have g4:=Zet q4;refine Zfn 9 8 7 [0,1,2,3,4,5,6] (.cells #[.int .i64 0,.int .i64 0,.int .i64 0,.int .i64 0,.slice none 0 0,.slice none 0 0] 136) (by kernel_rfl) rfl (by kernel_rfl) rfl rfl (λa W=>by simp[go_sem,execOp,Act.eval]) ?_;refine Zfj [0,1] (by kernel_rfl) rfl rfl (by kernel_rfl) ?_;simp only[ZeD,YB,YA,YK,YJ]
 repeat (go_big_quiet_step (fail))
 refine XU ?_;refine Zfk 2 rfl (by kernel_rfl) rfl (λW hW=>Zfo (f:=68) (args:= #[at']) (by simp[go_sem,execOp,Act.eval]) ?_);refine(Z9v at' W).mono ?_;rintro e V0 ⟨p0,rfl,hF,Do⟩;refine⟨.func (.func 112) #[] #[.pointer (some ⟨p0,0,none⟩)],rfl,hF,?_⟩;replace hX:=hX.trans (hW.trans hF);clear hF hW;go_simp;refine Zfk 3 rfl (by kernel_rfl) rfl (λW hW=>Zf3 ⟨.slice (some ⟨W.heap.size,0,none⟩) 1 1,W.alloc (.cells #[.func (.func 112) #[] #[.pointer (some ⟨p0,0,none⟩)]] 129),by simp[go_sem,execOp,Act.eval],(Ext.rfl' W).alloc _,?_⟩);have B3:=Z30 W #[.func (.func 112) #[] #[.pointer (some ⟨p0,0,none⟩)]] [(112,#[],#[.pointer (some ⟨p0,0,none⟩)])] W.heap.size rfl rfl;have hF:=(hW.alloc (.cells #[.func (.func 112) #[] #[.pointer (some ⟨p0,0,none⟩)]] 129));replace hX:=hX.trans hF;replace Do:=hF.cellS Do;clear hF hW;generalize W.heap.size=B2 at B3⊢;generalize World.alloc W _=V9 at*;go_simp;refine Zfk 4 rfl (by kernel_rfl) rfl (λW hW=>Zfo (f:=67) (args:= #[.agg #[r0,r1,r2,r3,.slice base n cap],.slice (some ⟨B2,0,none⟩) 1 1]) (by simp[go_sem,execOp,Act.eval]) ?_)
 refine(Z4K r0 r1 r2 r3 base n cap W 1 B2 (by omega) [(112,#[],#[.pointer (some ⟨p0,0,none⟩)])] [Zv at'] rfl rfl (λj x hj=>hW.cellS (B3 j x hj)) (by intro x hx args w';simp only[XE,XL,VO] at hx;rcases hx with rfl<;>simp[go_sem]) (by
       intro j x r hj hr w' hw'
       match j,hj,hr with
       |0,hj,hr=>
        obtain rfl:=YT hj;obtain rfl:=YT hr;exact Z3x p0 at' w' ((hW.trans hw').cellS Do)) S A1 (hS.ext (Ab.trans (hX.trans hW))) (Eb.ext (Ab.trans (hX.trans hW)))).mono ?_
 rintro e V10 ⟨k0,k1,k2,k3,b4,n4,c4,b5,n5,c5,rfl,hF,Ck⟩;refine⟨.tuple #[.agg #[k0,k1,k2,k3,.slice b4 n4 c4,.slice b5 n5 c5],.int .i64 (firstV (Zy r0 r1 r2 r3 S [Zv at']))],rfl,hF,?_⟩;replace hX:=hX.trans (hW.trans hF);have Au:Askd r0 r1 r2 r3 base n cap S [Zv at'] k0 k1 k2 k3 b4 n4 c4 b5 n5 c5 V10:=λh=>by obtain⟨B,p,h0,h1,h2,h3,h4,h5,h6,h7,h8,h9,hC,_⟩:=Ck h;exact⟨B,p,h0,h1,h2,h3,h4,h5,h6,h7,h8,h9,hC⟩
 clear hF hW Ck B3 Do;go_simp;refine Zfj [5,6,7] (by kernel_rfl) rfl rfl (by kernel_rfl) ?_;simp only[ZeD,YB,YA,YK,YJ]
 repeat (go_big_quiet_step (fail))
 refine XU ?_;refine Zfq (by kernel_rfl) (λW hW b hA Bw Am=> ?_);have Ha:w1.heap.size<=b:=hA.1.1.1;replace hX:=hX.trans hW;replace Au:=Au.ext hW;clear hW;go_simp;refine Zfp 2 (by kernel_rfl) (λW hW=> ?_);simp only[VW,VP];replace hX:=hX.trans hW;replace Au:=Au.ext hW;replace Am:=hW.get Am;have Dc:w.heap.size<=b:=by have h1:=Ha;have h2:=Ab.size;omega
 have Bf:=Ab.trans hX;clear hA Ha Bw hW hX Ab hb q0 q1 q2 q3 q4 g0 g1 g2 g3 g4;have x0:=Z8 Am 0;have x1:=Z8 Am 1;have x2:=Z8 Am 2;have x3:=Z8 Am 3;have x4:=Z8 Am 4;have x5:=Z8 Am 5;have y0:=Z0 Am 0;have y1:=Z0 Am 1;have y2:=Z0 Am 2;have y3:=Z0 Am 3;have y4:=Z0 Am 4;have y5:=Z0 Am 5;simp only[YC,YA,YB] at y0 y1 y2 y3 y4 y5;have Ai:=Z0K Am (.int .i64 k0) (.int .i64 k1) (.int .i64 k2) (.int .i64 k3) (.slice b4 n4 c4) (.slice b5 n5 c5);obtain⟨hX,Dp⟩:=Ai;replace Au:=Au.stored Am Dp;replace Bf:=Dp.before Bf Dc;go_wp2_with fail;generalize ((((((W.setCell ⟨b,0,none⟩ (.int .i64 k0)).setCell ⟨b,1,none⟩ (.int .i64 k1)).setCell ⟨b,2,none⟩ (.int .i64 k2)).setCell ⟨b,3,none⟩ (.int .i64 k3)).setCell ⟨b,4,none⟩ (.slice b4 n4 c4)).setCell ⟨b,5,none⟩ (.slice b5 n5 c5))=X at hX Au Bf Dp⊢;clear Dp Am Dc x0 x1 x2 x3 x4 x5 y0 y1 y2 y3 y4 y5;refine Zfm ?_;go_wp2_with fail
 ·have A9:(firstV (Zy r0 r1 r2 r3 S [Zv at']) !=0)=true:=by assumption
  have C3:¬ZA r0 r1 r2 r3 S at'=0:=by simpa[ZA] using A9
  go_ret3;exact⟨by rw[Z8H,XA C3];rfl,Bf⟩
 ·have heq:(firstV (Zy r0 r1 r2 r3 S [Zv at']) !=0)=false:=by assumption
  have C3:firstV (Zy r0 r1 r2 r3 S [Zv at'])=0:=by simpa using heq
  obtain⟨G6,G5,Df,Ny⟩:=Z11 C3;obtain⟨_,h8,_⟩:=Z0i G6;have Cs:=Z0N (G5 (Zv at') (by simp));obtain⟨d,rfl⟩:=VL Cs.1;have Eh:d<=90:=by omega
  obtain⟨B,p',e0,e1,e2,e3,e4,e5,e6,e7,e8,e9,hC⟩:=Au C3;subst k0 k1 k2 k3 b4 n4 c4 b5 n5 c5;have Ec:n<=8:=by omega
  have Bb:=λv w'=>Z08 r0 r1 r2 r3 base n cap v Ec w'
  have hat:=λw' hm' hC'=>Z2Y r0 r1 r2 r3 (.slice base n cap) B n d (2 ^ n - 1) p' (cvS r0 r1 r2 r3 (S.map Ze)) Ec Eh (Z2Z Ec) w' hm' hC'
  have HV:Hid (Z4L r0 r1 r2 r3 S d=atF (cvS r0 r1 r2 r3 (S.map Ze)) (2 ^ n - 1) d n):=by
   show _=_;rw[Z4L,UF,A1]
  have Ee:Hid (ZA r0 r1 r2 r3 S d=0):=C3;have Fo:=Eb.ext Bf;clear Au G6 G5 Df Ny heq C3 Cs;generalize (2:Int) ^ n - 1=st at Bb hat HV;generalize atF (cvS r0 r1 r2 r3 (S.map Ze)) st d n=V at hat HV;obtain⟨va,vb⟩:=V;have x0:=Z0 hX 0;have x1:=Z0 hX 1;have x2:=Z0 hX 2;have x3:=Z0 hX 3;have x4:=Z0 hX 4;have x5:=Z0 hX 5;simp only[YC,YA,YB] at x0 x1 x2 x3 x4 x5;have c0:=Zet x0;have c1:=Zet x1;have c2:=Zet x2;have c3:=Zet x3;have c4:=Zet x4;have c5:=Zet x5;refine Zfn 6 5 8 [0,1,2,3,4] (.cells #[.int .i64 0,.int .i64 0] 49) (by kernel_rfl) rfl (by kernel_rfl) rfl rfl (λa W=>by simp[go_sem,execOp,Act.eval]) ?_;refine Zfj [0,1,3] (by kernel_rfl) rfl rfl (by kernel_rfl) ?_;simp only[ZeD,YB,YA,YK,YJ]
  repeat (go_big_quiet_step (fail))
  refine XU ?_;refine Zfr 2 (f:=70) (args:= #[.agg #[r0,r1,r2,r3,.slice base n cap,.slice (some ⟨B,0,none⟩) n n]]) (v:= .int .i64 st) (by kernel_rfl) rfl rfl rfl (by kernel_rfl) rfl (λW=>by simp[go_sem,execOp,Act.eval]) (λW _=>Bb _ W) ?_;go_simp;refine Zfr 4 (f:=69) (args:= #[.agg #[r0,r1,r2,r3,.slice base n cap,.slice (some ⟨B,0,none⟩) n n],st,d]) (v:= .agg #[va,vb]) (by kernel_rfl) rfl rfl rfl (by kernel_rfl) rfl (λW=>by simp[go_sem,execOp,Act.eval]) (λW hW=>hat W (Fo.ext hW) (hC.ext hW)) ?_;go_simp;refine Zfq (by kernel_rfl) (λW hW b hA Bw Am=> ?_);obtain⟨bx,rfl⟩:∃bx,bx=b:=⟨_,rfl⟩;have Ak:=hW;clear hW;go_simp;refine Zfp 1 (by kernel_rfl) (λW hW=> ?_);simp only[VW,VP];replace Am:=hW.get Am;have C6:=(Bf.trans Ak).trans hW;have Dc:w.heap.size<=bx:=by have h1:=hA;have h2:=Bf.size;omega
  have Hn:=set_pair Am (.int .i64 va) (.int .i64 vb);have Kr:=(C6.setCell ⟨bx,0,none⟩ (.int .i64 va) Dc).setCell ⟨bx,1,none⟩ (.int .i64 vb) Dc;have g:=Zc Am;have g0:=g.1;have g1:=g.2.1;have g2:=g.2.2.1;have g3:=g.2.2.2;clear g C6 Bf hW Ak Dc hA Bw hC Fo Bb hat hX x0 x1 x2 x3 x4 x5 c0 c1 c2 c3 c4 c5;go_wp2_with fail;generalize (W.setCell ⟨bx,0,none⟩ (.int .i64 va)).setCell ⟨bx,1,none⟩ (.int .i64 vb)=Y at Hn Kr⊢;clear g0 g1 g2 g3 Am;refine Zfm ?_;have g:=Zc Hn;have g0:=g.1;have g1:=g.2.1;have g2:=g.2.2.1;have g3:=g.2.2.2;go_wp2;go_ret3;exact⟨by rw[Z8H,YZ Ee.out,Ee.out,HV.out];rfl,Kr⟩
structure Fine(r0 r1 r2 r3:Int)(S:List Rs):Prop where
 cf:ZC r0 r1 r2 r3 S=0
 ne:S≠[]
 ft:Z20 r0 r1 r2 r3 S (upL S.length)=true
section
variable {S:List Rs}(hg:Fine r0 r1 r2 r3 S)
include hg
end
section
variable {S:List Rs}(hg:Fine r0 r1 r2 r3 S)
include hg
end
variable [Tw]
variable [Tw]
theorem Zgj{w:World}(h:w.heap[b]? =some (.cells #[a0,a1,a2,a3,a4] t)):
 w.cell? ⟨b,0,none⟩=some a0/\w.cell? ⟨b,1,none⟩=some a1/\w.cell? ⟨b,2,none⟩=some a2/\w.cell? ⟨b,3,none⟩=some a3/\w.cell? ⟨b,4,none⟩=some a4:=
 ⟨Z0 h 0,Z0 h 1,Z0 h 2,Z0 h 3,Z0 h 4⟩
end
section
open Go.Nk Go.RowKit
variable [Tw]
theorem Zrf(f:Nat)(a b c d:Int)(w:World):(Op.equalIn (f+1+1) 49 (.agg #[a,b]) (.agg #[c,d])).run gp w= .ok (a==c&&b==d) w:=by
 have u3:gp.underlying 3=some (.int .i64):=(underlying_eq 3).trans Tryz.underlying3;have a3:=Tryz.isAgg3;have z3:=Tryz.sizeOf3;have hS:gp.underlying 49=some (.struct (gp.fieldsOf 49)):=by kernel_rfl
 have hp:gp.stoodInHeld 49=false:=by kernel_rfl
 rw[SL w (f+1) 49 _ _ hS hp];simp only[Program.fieldsOf,underlying_eq,Tryz.underlying49];go_simp;by_cases h1:a=c<;>by_cases h2:b=d<;>simp[h1,h2]
@[go_sem] theorem eq23 (a b c d:Int) (w:World):(Op.equalIn 10000 23 (.agg #[a,b,c,d]) (.agg #[a,b,c,d])).run gp w= .ok true w:=by
  have u3:gp.underlying 3=some (.int .i64):=(underlying_eq 3).trans Tryz.underlying3;have a3:=Tryz.isAgg3;have z3:=Tryz.sizeOf3;have hS:gp.underlying 23=some (.struct (gp.fieldsOf 23)):=by kernel_rfl
  have hp:gp.stoodInHeld 23=false:=by kernel_rfl
  rw[show(10000:Nat)=9999+1 from rfl,SL w 9999 23 _ _ hS hp];simp only[Program.fieldsOf,underlying_eq,Tryz.underlying23];go_simp
@[go_sem] theorem guard23 (op:BinOp) (p q:Operand) (xs ys:Array Value) (w:World):(eqGuard op 23 p q (.agg xs) (.agg ys)).run gp w= .ok () w:=RF w op 23 p q xs ys (by kernel_rfl)
@[go_sem] theorem eq51 (s:ByteArray) (a b c d e f:Int) (w:World):(Op.equalIn 10000 51 (.agg #[.string s,a,b,c,d,e,f]) (.agg #[.string s,a,b,c,d,e,f])).run gp w= .ok true w:=by
  have a48:=Tryz.isAgg49;have z48:=Tryz.sizeOf49;have hS:gp.underlying 51=some (.struct (gp.fieldsOf 51)):=by kernel_rfl
  have hp:gp.stoodInHeld 51=false:=by kernel_rfl
  have h48:=λa b=>Zrf 9997 a b a b w
  rw[show(10000:Nat)=9999+1 from rfl,SL w 9999 51 _ _ hS hp];simp only[Program.fieldsOf,underlying_eq,Tryz.underlying51];go_simp
@[go_sem] theorem guard51 (op:BinOp) (p q:Operand) (xs ys:Array Value) (w:World):(eqGuard op 51 p q (.agg xs) (.agg ys)).run gp w= .ok () w:=RF w op 51 p q xs ys (by kernel_rfl)
theorem ZkO(a b c m:Int)(ao1 ao2:Option Addr)(n c1 c2:Nat)(L:List Sf)(w:World)(hn:L.length=n)(hb:n<=1000)(h1:RawA w ao1 L)(h2:RawA w ao2 L):
 Calls gp 13 #[.agg #[a,b,c,m,.slice ao1 n c1],.agg #[a,b,c,m,.slice ao2 n c2]] w λe w'=>e= .returned (.bool true)/\Ext w w':=by
 have Be:=((Ext.rfl' w).alloc (.cells #[a,b,c,m,.slice ao1 n c1] 26)).alloc (.cells #[a,b,c,m,.slice ao2 n c2] 26);have Bj:((w.alloc (.cells #[a,b,c,m,.slice ao1 n c1] 26)).alloc (.cells #[a,b,c,m,.slice ao2 n c2] 26)).heap[w.heap.size]? =some (.cells #[a,b,c,m,.slice ao1 n c1] 26):=by simp only[Z3,Z2];rw[XA (by omega),YZ trivial]
 have Bh:((w.alloc (.cells #[a,b,c,m,.slice ao1 n c1] 26)).alloc (.cells #[a,b,c,m,.slice ao2 n c2] 26)).heap[w.heap.size+1]? =some (.cells #[a,b,c,m,.slice ao2 n c2] 26):=by simp only[Z3,Z2];rw[YZ trivial]
 replace hn:Hid (L.length=n):=hn;replace h1:Hid (RawA w ao1 L):=h1;replace h2:Hid (RawA w ao2 L):=h2;go_enter fk Tryz.func13,Tryz.ntmps13;go_wp2;generalize World.alloc _ (.cells #[a,b,c,m,.slice ao2 n c2] 26)=w1 at Be Bj Bh⊢;go_loopw [5] (λv5 wr=>∃i:Nat,i<=n/\v5= .int .i64 i/\Ext w wr/\wr.heap[w.heap.size]? =some (.cells #[a,b,c,m,.slice ao1 n c1] 26)/\wr.heap[w.heap.size+1]? =some (.cells #[a,b,c,m,.slice ao2 n c2] 26)) (λv5 _=>n - (intOf v5).toNat)
 case atStart=>exact⟨0,by omega,rfl,Be,Bj,Bh⟩
 case round=>
  clear Be Bj Bh;obtain⟨i,hi,rfl,hE,Bj,Bh⟩:=hrel;obtain⟨p0,p1,p2,p3,p4⟩:=Zgj Bj;obtain⟨q0,q1,q2,q3,q4⟩:=Zgj Bh;by_cases Ao:i=n
  ·subst Ao;go_wp2;go_ret;exact⟨rfl,hE⟩
  ·have A3:(i:Int)<(n:Int):=by omega
   obtain⟨x,hx⟩:∃x,L[i]? =some x:=⟨_,YH (by have:=hn.out;omega)⟩;obtain⟨b1,o1,rfl,_,sx,_⟩:=(h1.out.ext hE) i x hx;obtain⟨b2,o2,rfl,_,sy,_⟩:=(h2.out.ext hE) i x hx;have x0:=sx.1;have x1:=sx.2;have x2:=sx.3;have x3:=sx.4;have x4:=sx.5;have x5:=sx.6;have x6:=sx.7;have y0:=sy.1;have y1:=sy.2;have y2:=sy.3;have y3:=sy.4;have y4:=sy.5;have y5:=sy.6;have y6:=sy.7;clear hx sx sy;have gp:=Zet p4;have gq:=Zet q4;have gx0:=Zet x0;have gx1:=Zet x1;have gx2:=Zet x2;have gx3:=Zet x3;have gx4:=Zet x4;have gx5:=Zet x5;have gx6:=Zet x6;have gy0:=Zet y0;have gy1:=Zet y1;have gy2:=Zet y2;have gy3:=Zet y3;have gy4:=Zet y4;have gy5:=Zet y5;have gy6:=Zet y6;go_wp2_with fail;refine ZeG 11 (by kernel_rfl) ?_;refine ZeB [0,1,2,3,4,5,6,7,8,9,10] (by kernel_rfl) (by kernel_rfl) ?_;simp only[ZeD,YB,YA,YK,YJ]
   repeat (go_big_quiet_step (fail))
   refine XU ?_;refine Zf6 (by kernel_rfl) (λW hW=> ?_);have A4:=hE.trans hW;replace Bj:=hW.get Bj;replace Bh:=hW.get Bh;clear p0 p1 p2 p3 p4 q0 q1 q2 q3 q4 gp gq gx0 gx1 gx2 gx3 gx4 gx5 gx6 gy0 gy1 gy2 gy3 gy4 gy5 gy6 x0 x1 x2 x3 x4 x5 x6 y0 y1 y2 y3 y4 y5 y6 hW hE;go_wp2;exact⟨⟨i+1,by omega,by push_cast;rfl,A4,Bj,Bh⟩,by simp[intOf];omega⟩
end
end Go.Proofs.Tryq
namespace Go.Ns
section
open Go.Conc
open Go.Nk (Z6)
def Dead:Halt->Prop
 | .stuck _=>True
 | .unsupported (.initOrder _)=>False
 | .unsupported _=>True
 |_=>False
def okM:Mark->Prop
 | .noRoom| .extern _=>True
 |_=>False
def EvW(B:Nat)(e:Event):Prop:=(MemAct.ofEvent e).low B/\e.loc≠.mark .disable/\e.loc≠.mark .enable
theorem EvW.mono{B:Nat}{e:Event}(h:EvW B e)(hB:B<=B'):EvW B' e:=⟨MemAct.low_mono hB h.1,h.2⟩
abbrev Knob:Obj:= .coro none
def Rd(W:Obj->Prop)(o:Obj):Prop:=W o\/∃c e,o= .pending c e
inductive SE(PA PB:Program)(W:Obj->Prop){α:Type}(A:α->Prop):Sem α->Sem α->Prop
 |pure {a}:A a->SE PA PB W A (.pure a) (.pure a)
 |load {m a k k'}:(∀v,SE PA PB W A (k v) (k' v))->SE PA PB W A (.load m a k) (.load m a k')
 |store {m a v k k'}:SE PA PB W A k k'->SE PA PB W A (.store m a v k) (.store m a v k')
 |new {o k k'}:W o->(∀r,SE PA PB W A (k r) (k' r))->SE PA PB W A (.new o k) (.new o k')
 |shape {r k k'}:(∀s,SE PA PB W A (k s) (k' s))->SE PA PB W A (.shape r k) (.shape r k')
 |freeze {a n k k'}:SE PA PB W A k k'->SE PA PB W A (.freeze a n k) (.freeze a n k')
 |frozen {a k k'}:(∀s,SE PA PB W A (k s) (k' s))->SE PA PB W A (.frozen a k) (.frozen a k')
 |getObj {r k k'}:(∀o,W o->SE PA PB W A (k o) (k' o))->(∀c e,SE PA PB W A (k (.pending c e)) (k' (.pending c e)))->(∀o,¬Rd W o->SE PA PB W A (k Knob) (k' o))->SE PA PB W A (.getObj r k) (.getObj r k')
 |setObj {r o k k'}:W o->SE PA PB W A k k'->SE PA PB W A (.setObj r o k) (.setObj r o k')
 |choose {q k k'}:(∀n,SE PA PB W A (k n) (k' n))->SE PA PB W A (.choose q k) (.choose q k')
 |sys {c k k'}:(∀r,SE PA PB W A (k r) (k' r))->SE PA PB W A (.sys c k) (.sys c k')
 |program {k k'}:SE PA PB W A (k PA) (k' PB)->SE PA PB W A (.program k) (.program k')
 |mark {m k k'}:okM m->SE PA PB W A k k'->SE PA PB W A (.mark m k) (.mark m k')
 |panic {v}:SE PA PB W A (.halt (.panic v)) (.halt (.panic v))
 |dead {h Y}:Dead h->SE PA PB W A (.halt h) Y
 |markDead {m h Y}:Dead h->SE PA PB W A (.mark m (.halt h)) Y
structure WOk(W:Obj->Prop):Prop where
 cells:∀c e f,W (.cells c e f)
 view:∀a t,W (.view a t)
 coro:∀c,¬W (.coro c)
 pending:∀c e,¬W (.pending c e)
theorem ZnE{W:Obj->Prop}(hW:WOk W)(c e f):Rd W (.cells c e f):= .inl (hW.cells _ _ _)
open Classical in
noncomputable def ZnG(W:Obj->Prop)(o:Obj):Obj:=if Rd W o then o else Knob
noncomputable def clean(W:Obj->Prop)(w:World):World:={w with heap:=w.heap.map (ZnG W)}
structure Jn(W:Obj->Prop)(w w':World):Prop where
 old:∀(b:Nat)(o:Obj),w.heap[b]? =some o->w'.heap[b]? =some o\/∃o',w'.heap[b]? =some o'/\W o'
 pend:∀(b:Nat) c e,w'.heap[b]? =some (.pending c e)->w.heap[b]? =some (.pending c e)
theorem Jn.refl(W:Obj->Prop)(w:World):Jn W w w:=⟨λ_ _ h=> .inl h,λ_ _ _ h=>h⟩
theorem Jn.trans{W:Obj->Prop}{a b c:World}(h:Jn W a b)(k:Jn W b c):Jn W a c:=⟨λx o ho=>by
 rcases h.old x o ho with h1|⟨o',h1,h2⟩
 ·exact k.old x o h1
 ·rcases k.old x o' h1 with h3|h3
  ·exact .inr ⟨o',h3,h2⟩
  ·exact .inr h3,λx c e hx=>h.pend x c e (k.pend x c e hx)⟩
section
variable {W:Obj->Prop}
theorem Znu{o:Obj}(h:Rd W o):ZnG W o=o:=by classical exact YZ h
theorem Zo2{o:Obj}(h:W o):ZnG W o=o:=Znu (.inl h)
theorem Znw(w:World)(b:Nat):(clean W w).heap[b]? =(w.heap[b]?).map (ZnG W):=by simp[clean]
theorem Zny(w:World):(clean W w).heap.size=w.heap.size:=by simp[clean]
theorem Znt{o:Obj}(h:¬Rd W o):ZnG W o=Knob:=by classical exact XA h
theorem ZnN(hW:WOk W)(c e f):ZnG W (.cells c e f)= .cells c e f:=Zo2 (hW.cells _ _ _)
theorem Zo7(hW:WOk W)(w:World)(a:Addr):(clean W w).cell? a=w.cell? a:=by
 unfold World.cell?;rw[Znw];cases w.heap[a.block]? with
 |none=>rfl
 |some o=>
  by_cases hw:Rd W o
  ·rw[XI,Znu hw]
  ·rw[XI,Znt hw];cases o<;>first|rfl|exact(hw (ZnE hW _ _ _)).elim
theorem Zpc(hW:WOk W)(w:World)(r:Nat):(clean W w).shape? r=w.shape? r:=by
 unfold World.shape?;rw[Znw];cases w.heap[r]? with
 |none=>rfl
 |some o=>
  by_cases hw:Rd W o
  ·rw[XI,Znu hw]
  ·rw[XI,Znt hw];cases o<;>first|rfl|exact(hw (ZnE hW _ _ _)).elim
theorem Zod(hW:WOk W)(w:World)(a:Addr):(clean W w).frozen? a=w.frozen? a:=by
 unfold World.frozen?;rw[Znw];cases w.heap[a.block]? with
 |none=>rfl
 |some o=>
  by_cases hw:Rd W o
  ·rw[XI,Znu hw]
  ·rw[XI,Znt hw];cases o<;>first|rfl|exact(hw (ZnE hW _ _ _)).elim
theorem Zo8(w:World)(h:Array Obj):clean W {w with heap:=h}={clean W w with heap:=h.map (ZnG W)}:=rfl
theorem ZoL{o:Obj}(ho:W o)(w:World)(b:Nat):clean W {w with heap:=w.heap.setIfInBounds b o}={clean W w with heap:=(clean W w).heap.setIfInBounds b o}:=by
 rw[Zo8,Array.map_setIfInBounds,Zo2 ho];rfl
theorem ZpC{o:Obj}(ho:W o)(w:World):clean W {w with heap:=w.heap.push o}={clean W w with heap:=(clean W w).heap.push o}:=by
 rw[Zo8,Array.map_push,Zo2 ho];rfl
theorem Zoe(w:World)(b:Nat)(f:Obj->Obj)(hf:∀o,ZnG W (f o)=f (ZnG W o)):clean W {w with heap:=w.heap.modify b f}={clean W w with heap:=(clean W w).heap.modify b f}:=by
 rw[Zo8];have:(w.heap.modify b f).map (ZnG W)=(w.heap.map (ZnG W)).modify b f:=by
  apply Array.ext_getElem?;intro i;rw[Array.getElem?_map,Array.getElem?_modify,Array.getElem?_modify,Array.getElem?_map];split
  ·cases w.heap[i]? with
   |none=>rfl
   |some o=>simp only[XI,hf]
  ·rfl
 rw[this];rfl
theorem Zox(hW:WOk W)(w:World)(a:Addr)(v:Value):clean W (w.setCell a v)=(clean W w).setCell a v:=by
 unfold World.setCell;refine Zoe w _ _ λo=> ?_
 by_cases hw:Rd W o
 ·rw[Znu hw];cases o<;>first|exact ZnN hW _ _ _|exact Znu hw
 ·rw[Znt hw];cases o<;>first|exact(hw (ZnE hW _ _ _)).elim|exact Znt hw
theorem ZoM(hW:WOk W)(w:World)(a:Addr)(n:Nat):clean W (w.freeze a n)=(clean W w).freeze a n:=by
 unfold World.freeze;split
 ·rfl
 ·refine Zoe w _ _ λo=> ?_
  by_cases hw:Rd W o
  ·rw[Znu hw];cases o<;>first|exact ZnN hW _ _ _|exact Znu hw
  ·rw[Znt hw];cases o<;>first|exact(hw (ZnE hW _ _ _)).elim|exact Znt hw
theorem ZqB{γ:Type}(h:Array Obj):∀(q:Ask γ)(w:World),World.ask {w with heap:=h} q=((w.ask q).1,{(w.ask q).2 with heap:=h}):=by
 intro q
 induction q with
 |done a=>intro w;rfl
 |ask what range k ih=>
  intro w;unfold World.ask;dsimp only;split
  ·exact ih _ _
  ·exact ih _ {w with drawn:=w.drawn+1}
theorem ZoN{γ:Type}:∀(q:Ask γ)(w:World),(w.ask q).2.heap=w.heap:=by
 intro q
 induction q with
 |done a=>intro w;rfl
 |ask what range k ih=>intro w;unfold World.ask;dsimp only;split<;>exact(ih _ _).trans rfl
theorem Zq0(w:World)(c:Sys):(w.sys c).2.heap=w.heap:=by
 unfold World.sys;split
 ·rfl
 ·rename_i r os w' _ heq;have:=ZoN (Kernel.perform c w.os) w;rw[heq] at this;exact this
theorem Zq1(w:World)(c:Sys):(clean W w).sys c=((w.sys c).1,clean W (w.sys c).2):=by
 unfold World.sys;have h:=ZqB ((w.heap.map (ZnG W))) (Kernel.perform c w.os) w;have e:(clean W w).ask (Kernel.perform c (clean W w).os)=((w.ask (Kernel.perform c w.os)).1,{(w.ask (Kernel.perform c w.os)).2 with heap:=w.heap.map (ZnG W)}):=h;rw[e];have h2:=ZoN (Kernel.perform c w.os) w;rcases hx:w.ask (Kernel.perform c w.os) with⟨⟨r,os⟩,w1⟩;rw[hx] at h2;have h3:w1.heap=w.heap:=h2;cases r<;>simp only[clean,h3]
theorem Jn.set(hW:WOk W){w:World}{o:Obj}(ho:W o)(b:Nat):Jn W w {w with heap:=w.heap.setIfInBounds b o}:=by
 constructor
 ·intro x y hx;show(w.heap.setIfInBounds b o)[x]? =some y\/∃o',(w.heap.setIfInBounds b o)[x]? =some o'/\W o';by_cases hb:b=x
  ·subst hb;exact .inr ⟨o,by rw[Array.getElem?_setIfInBounds,YZ rfl,YZ (YF.1 hx).1],ho⟩
  ·exact .inl (by rw[Array.getElem?_setIfInBounds,XA hb];exact hx)
 ·intro x c e hx;have hx:(w.heap.setIfInBounds b o)[x]? =_:=hx;rw[Array.getElem?_setIfInBounds] at hx;split at hx
  ·split at hx
   ·cases hx;exact absurd ho (hW.pending _ _)
   ·cases hx
  ·exact hx
theorem Jn.push(hW:WOk W){w:World}{o:Obj}(ho:W o):Jn W w {w with heap:=w.heap.push o}:=by
 constructor
 ·exact λx y hx=> .inl (by
   show(w.heap.push o)[x]? =some y;have:=(YF.1 hx).1;rw[Array.getElem?_push,XA (by omega)];exact hx)
 ·intro x c e hx;have hx:(w.heap.push o)[x]? =_:=hx;rw[Array.getElem?_push] at hx;split at hx
  ·cases hx;exact absurd ho (hW.pending _ _)
  ·exact hx
theorem Jn.modify(hW:WOk W){w:World}(b:Nat)(f:Obj->Obj)(hf:∀o,f o=o\/W (f o)):Jn W w {w with heap:=w.heap.modify b f}:=by
 constructor
 ·intro x y hx;show(w.heap.modify b f)[x]? =some y\/∃o',(w.heap.modify b f)[x]? =some o'/\W o';rw[Array.getElem?_modify,hx];split
  ·rcases hf y with h|h
   ·exact .inl (by simp[h])
   ·exact .inr ⟨_,rfl,h⟩
  ·exact .inl rfl
 ·intro x c e hx;have hx:(w.heap.modify b f)[x]? =_:=hx;rw[Array.getElem?_modify] at hx;split at hx
  ·cases hw:w.heap[x]? with
   |none=>rw[hw] at hx;cases hx
   |some o=>
    rw[hw] at hx;simp only[XI,XJ] at hx;rcases hf o with h|h
    ·rw[<-hx,h]
    ·rw[hx] at h;exact absurd h (hW.pending _ _)
  ·exact hx
theorem Jn.setCell(hW:WOk W)(w:World)(a:Addr)(v:Value):Jn W w (w.setCell a v):=Jn.modify hW _ _ λo=>by cases o<;>first|exact .inl rfl|exact .inr (hW.cells _ _ _)
theorem Jn.freeze(hW:WOk W)(w:World)(a:Addr)(n:Nat):Jn W w (w.freeze a n):=by
 unfold World.freeze;split
 ·exact Jn.refl _ _
 ·exact Jn.modify hW _ _ λo=>by cases o<;>first|exact .inl rfl|exact .inr (hW.cells _ _ _)
end
section
variable {PA PB:Program}{W:Obj->Prop}{α β:Type}{A:α->Prop}{B:β->Prop}
theorem SE.bind{X Y:Sem α}{f g:α->Sem β}(h:SE PA PB W A X Y)(hf:∀a,A a->SE PA PB W B (f a) (g a)):SE PA PB W B (X>>=f) (Y>>=g):=by
 show SE PA PB W B (X.bind f) (Y.bind g)
 induction h with
 |pure h=>exact hf _ h
 |load _ ih=>exact .load ih
 |store _ ih=>exact .store ih
 |new h _ ih=>exact .new h ih
 |shape _ ih=>exact .shape ih
 |freeze _ ih=>exact .freeze ih
 |frozen _ ih=>exact .frozen ih
 |getObj _ _ _ ih ih1 ih2=>exact .getObj ih ih1 ih2
 |setObj h _ ih=>exact .setObj h ih
 |choose _ ih=>exact .choose ih
 |sys _ ih=>exact .sys ih
 |program _ ih=>exact .program ih
 |mark h _ ih=>exact .mark h ih
 |panic=>exact .panic
 |dead h=>exact .dead h
 |markDead h=>exact .markDead h
def Out(W:Obj->Prop)(A:α->Prop)(w:World)(es:Array Event)(x:Result α)(y:Result α×Array Event):Prop:=
 (∃h w',x= .halt h w'/\Dead h)\/∃w' new,Jn W w w'/\w.heap.size<=w'.heap.size/\(∀e∈new,EvW w'.heap.size e)/\
   ((∃a,x= .ok a (clean W w')/\y=(.ok a w',es++new)/\A a)\/(∃v,x= .halt (.panic v) (clean W w')/\y=(.halt (.panic v) w',es++new))\/∃g c e,w'.heap[g]? =some (.pending c e)/\x= .halt (.unsupported (.initOrder g)) (clean W w'))
theorem Out.step{w:World}{es:Array Event}{new:Array Event}{x:Result α}{y:Result α×Array Event}(hj:Jn W w w1)(hs:w.heap.size<=w1.heap.size)(hn:∀e∈new,EvW w1.heap.size e)(he:es'=es++new)(h:Out W A w1 es' x y):Out W A w es x y:=by
 subst he;rcases h with h|⟨w',new',h1,h2,h3,h4⟩
 ·exact .inl h
 ·refine .inr ⟨w',new++new',hj.trans h1,XD hs h2,λe he=> ?_,?_⟩
  ·rcases UL.1 he with he|he
   ·exact(hn e he).mono h2
   ·exact h3 e he
  ·rw[Array.append_assoc] at h4;exact h4
theorem Out.still{w:World}{es:Array Event}{x:Result α}{y:Result α×Array Event}(hj:Jn W w w1)(hs:w.heap.size<=w1.heap.size)(h:Out W A w1 es x y):Out W A w es x y:=Out.step hj hs (new:= #[]) (λe he=>by simp at he) (by simp) h
theorem Out.one{w:World}{es:Array Event}{e:Event}{x:Result α}{y:Result α×Array Event}(hj:Jn W w w1)(hs:w.heap.size<=w1.heap.size)(hn:EvW w1.heap.size e)(h:Out W A w1 (es.push e) x y):Out W A w es x y:=Out.step hj hs (new:= #[e]) (λx hx=>by simp at hx;subst hx;exact hn) (by simp) h
theorem Zq2{w:World}{a:Addr}{v:Value}(h:w.cell? a=some v):a.block<w.heap.size:=by
 unfold World.cell? at h;split at h
 ·rename_i c e f hb;exact(YF.1 hb).1
 ·cases h
theorem Zoy{B:Nat}{a:Addr}{s:Bool}(h:a.block<B):EvW B ⟨.cell a,wr,s⟩:=⟨h,by simp,by simp⟩
theorem Zoz{B:Nat}{r:Nat}{s:Bool}(h:r<B):EvW B ⟨.obj r,wr,s⟩:=⟨by cases wr<;>cases s<;>exact h,by simp,by simp⟩
theorem Zpd(w:World)(a:Addr)(n:Nat):(w.freeze a n).heap.size=w.heap.size:=by
 unfold World.freeze;split<;>simp
structure Far(PA PB:Program):Prop where
 load:∀(w:World)(a:Addr)(m:Bool),w.farLoad PB a m=w.farLoad PA a m
 store:∀(w:World)(a:Addr)(v:Value)(m:Bool),w.farStore PB a v m=w.farStore PA a v m
theorem Zq3{w:World}{a:Addr}{k:Addr}{m:Bool}{r:Array Value×TypeId×(Nat×Nat)×Nat×Value×List (Nat×Nat×List UInt8)}(h:w.seen p a u k m= .ok r):a.block<w.heap.size:=by
 cases hh:w.heap[a.block]? with
 |some o=>exact(YF.1 hh).1
 |none=>
  exfalso;unfold World.seen at h;simp only[bind,Except.bind,pure,Except.pure,throw,throwThe,MonadExceptOf.throw,hh] at h
  (repeat' split at h)<;>first|(cases h;done)|skip
theorem Zor(hW:WOk W)(p:Program)(w:World)(a:Addr)(u:TypeId)(k:Addr)(m:Bool):(clean W w).seen p a u k m=w.seen p a u k m:=by
 unfold World.seen;rw[Znw];cases w.heap[a.block]? with
 |none=>rfl
 |some o=>
  by_cases hw:Rd W o
  ·rw[XI,Znu hw]
  ·rw[XI,Znt hw];cases o<;>first|rfl|exact(hw (ZnE hW _ _ _)).elim
theorem Zol(hW:WOk W)(p:Program)(w:World)(b:Addr)(u:TypeId)(k:Addr)(v:Value)(m:Bool):(clean W w).viewStore p b u k v m=(match w.viewStore p b u k v m with| .ok (w',l)=> .ok (clean W w',l)| .error e=> .error e):=by
 unfold World.viewStore;rw[Zor hW];simp only[bind,Except.bind,pure,Except.pure];split
 ·rfl
 ·split
  ·rfl
  ·split
   ·split
    ·rfl
    ·split
     ·rfl
     ·simp only[ZoL (hW.cells _ _ _)]
   ·rfl
theorem ZoO(hW:WOk W)(w:World)(a:Addr)(str:String):(∃b u,w.heap[a.block]? =some (.view b u)/\(clean W w).heap[a.block]? =some (.view b u))\/((∀b u,(clean W w).heap[a.block]? ≠some (.view b u))/\(Dead ((clean W w).noCell a str)\/
 ∃c e,w.heap[a.block]? =some (.pending c e)/\(clean W w).noCell a str= .unsupported (.initOrder a.block))):=by
 unfold World.noCell;rw[Znw];cases w.heap[a.block]? with
 |none=>exact .inr ⟨λ_ _ h=>(by cases h),.inl trivial⟩
 |some o=>
  by_cases hw:Rd W o
  ·rw[XI,Znu hw];cases o<;>first|exact .inl ⟨_,_,rfl,rfl⟩|exact .inr ⟨λ_ _ h=>(by cases h),.inl trivial⟩|exact .inr ⟨λ_ _ h=>(by cases h),.inr ⟨_,_,rfl,rfl⟩⟩
  ·rw[XI,Znt hw];exact .inr ⟨λ_ _ h=>(by cases h),.inl trivial⟩
theorem Zpe(hW:WOk W)(w:World)(a:Addr)(m:Bool):(∃e,(clean W w).farLoad PA a m= .error e/\Dead e)\/(∃g c e,w.heap[g]? =some (.pending c e)/\(clean W w).farLoad PA a m= .error (.unsupported (.initOrder g)))\/∃v l,(clean W w).farLoad PA a m= .ok (v,l)/\w.farLoad PA a m= .ok (v,l)/\∀x∈l,x.block<w.heap.size:=by
 rcases ZoO hW w a "load: no such cell" with⟨at_,u,h1,h2⟩|⟨h1,h2⟩
 ·unfold World.farLoad;rw[h1,h2];dsimp only;have e:(clean W w).viewLoad PA at_ u a m=w.viewLoad PA at_ u a m:=by unfold World.viewLoad;rw[Zor hW]
  rw[e];cases hv:w.viewLoad PA at_ u a m with
  |error e=>exact .inl ⟨_,rfl,trivial⟩
  |ok r=>
   obtain⟨v,l⟩:=r;refine .inr (.inr ⟨v,l,rfl,rfl,?_⟩);unfold World.viewLoad at hv;simp only[bind,Except.bind,pure,Except.pure] at hv;split at hv
   ·cases hv
   ·rename_i s hs;have A3:=Zq3 hs
    (repeat' split at hv)<;>first|(cases hv;done)|skip
    all_goals
     cases hv;intro x hx;obtain⟨y,_,rfl⟩:=VD.1 hx;exact A3
 ·have e1:(clean W w).farLoad PA a m= .error ((clean W w).noCell a "load: no such cell"):=by
   unfold World.farLoad;split
   ·rename_i at_ u hb;exact absurd hb (h1 _ _)
   ·rfl
  rcases h2 with h2|⟨c,e,h2,h3⟩
  ·exact .inl ⟨_,e1,h2⟩
  ·exact .inr (.inl ⟨_,c,e,h2,by rw[e1,h3]⟩)
theorem ZoP(hW:WOk W)(w:World)(a:Addr)(v:Value)(m:Bool):(∃e,(clean W w).farStore PA a v m= .error e/\Dead e)\/(∃g c e,w.heap[g]? =some (.pending c e)/\(clean W w).farStore PA a v m= .error (.unsupported (.initOrder g)))\/∃w' l,(clean W w).farStore PA a v m= .ok (clean W w',l)/\w.farStore PA a v m= .ok (w',l)/\Jn W w w'/\w'.heap.size=w.heap.size/\∀x∈l,x.block<w.heap.size:=by
 rcases ZoO hW w a "store: no such cell" with⟨at_,u,h1,h2⟩|⟨h1,h2⟩
 ·unfold World.farStore;rw[h1,h2];dsimp only;rw[Zol hW];cases hv:w.viewStore PA at_ u a v m with
  |error e=>exact .inl ⟨_,rfl,trivial⟩
  |ok r=>
   obtain⟨w',l⟩:=r;refine .inr (.inr ⟨w',l,rfl,rfl,?_⟩);unfold World.viewStore at hv;simp only[bind,Except.bind,pure,Except.pure] at hv;split at hv
   ·cases hv
   ·split at hv
    ·cases hv
    ·rename_i s hs;have A3:=Zq3 hs
     (repeat' split at hv)<;>first|(cases hv;done)|skip
     all_goals
      cases hv;refine⟨Jn.set hW (hW.cells _ _ _) _,by simp,λx hx=> ?_⟩;obtain⟨y,_,rfl⟩:=VD.1 hx;exact A3
 ·have e1:(clean W w).farStore PA a v m= .error ((clean W w).noCell a "store: no such cell"):=by
   unfold World.farStore;split
   ·rename_i at_ u hb;exact absurd hb (h1 _ _)
   ·rfl
  rcases h2 with h2|⟨c,e,h2,h3⟩
  ·exact .inl ⟨_,e1,h2⟩
  ·exact .inr (.inl ⟨_,c,e,h2,by rw[e1,h3]⟩)
theorem ZoQ{w:World}{l:List Addr}{s:Bool}(h:∀x∈l,x.block<w.heap.size):∀e∈(l.toArray.map (⟨.cell ·,wr,s⟩):Array Event),EvW w.heap.size e:=by
 intro e he;obtain⟨a,ha,rfl⟩:=Array.mem_map.1 he;exact Zoy (h a (by simpa using ha))
theorem SE.run(hW:WOk W)(hF:Far PA PB){X Y:Sem α}(h:SE PA PB W A X Y):∀(w:World)(es:Array Event),Out W A w es (X.run PA (clean W w)) (Y.runT PB w es):=by
 induction h with
 |pure h=>exact λw es=> .inr ⟨w,#[],Jn.refl _ _,XB _,λe he=>by simp at he,.inl ⟨_,rfl,by simp[Sem.runT],h⟩⟩
 | @load m a k k' _ ih=>
   intro w es;simp only[Sem.run,Sem.runT];rw[Zo7 hW];cases hc:w.cell? a with
   |some v=>exact Out.one (Jn.refl _ _) (XB _) (Zoy (Zq2 hc)) (ih v w _)
   |none=>
    rw[hF.load];rcases Zpe (PA:=PA) hW w a (m== .atomic) with⟨e,he,hd⟩|⟨g,c,e,hg,he⟩|⟨v,l,he,Em,hl⟩
    ·simp only[he];exact .inl ⟨_,_,rfl,hd⟩
    ·simp only[he];exact .inr ⟨w,#[],Jn.refl _ _,XB _,λe he=>by simp at he,.inr (.inr ⟨g,c,e,hg,rfl⟩)⟩
    ·simp only[he,Em];exact Out.step (Jn.refl _ _) (XB _) (ZoQ hl) rfl (ih v w _)
 | @store m a v k k' _ ih=>
   intro w es
   have key:Out W A w es (match (clean W w).cell? a with
    |some _=>if(clean W w).frozen? a then Result.halt (.unsupported (.unsafePointer "a write to bytes that a string shares")) (clean W w) else k.run PA ((clean W w).setCell a v)
    |none=>match (clean W w).farStore PA a v (m== .atomic) with
     | .ok (w,_)=>k.run PA w
     | .error h=> .halt h (clean W w)) (match w.cell? a with
    |some _=>if w.frozen? a then(Result.halt (.unsupported (.unsafePointer "a write to bytes that a string shares")) w,es) else k'.runT PB (w.setCell a v) (es.push ⟨.cell a,true,m== .atomic⟩)
    |none=>match w.farStore PB a v (m== .atomic) with
     | .ok (w,touched)=>k'.runT PB w (es++touched.toArray.map (⟨.cell ·,true,m== .atomic⟩))
     | .error h=>(.halt h w,es)):=by
    rw[Zo7 hW,Zod hW];cases hc:w.cell? a with
    |some v0=>
     dsimp only;split
     ·exact .inl ⟨_,_,rfl,trivial⟩
     ·have hz:(w.setCell a v).heap.size=w.heap.size:=(by simp[World.setCell]);rw[<-Zox hW];exact Out.one (w1:=w.setCell a v) (Jn.setCell hW _ _ _) (by omega) (by rw[hz];exact Zoy (Zq2 hc)) (ih _ _)
    |none=>
     dsimp only;rw[hF.store];rcases ZoP (PA:=PA) hW w a v (m== .atomic) with⟨e,he,hd⟩|⟨g,c,e,hg,he⟩|⟨w',l,he,Em,hw',hz,hl⟩
     ·simp only[he];exact .inl ⟨_,_,rfl,hd⟩
     ·simp only[he];exact .inr ⟨w,#[],Jn.refl _ _,XB _,λe he=>by simp at he,.inr (.inr ⟨g,c,e,hg,rfl⟩)⟩
     ·simp only[he,Em];exact Out.step (w1:=w') hw' (by omega) (ZoQ (λx hx=>by rw[hz];exact hl x hx)) rfl (ih _ _)
   cases v<;>first|exact key|exact .inl ⟨_,_,rfl,trivial⟩
 | @new o k k' ho _ ih=>
   intro w es;simp only[Sem.run,Sem.runT];rw[Zny,<-ZpC ho];exact Out.still (w1:={w with heap:=w.heap.push o}) (Jn.push hW ho) (by simp) (ih _ _ es)
 |shape _ ih=>exact λw es=>by simp only[Sem.run,Sem.runT];rw[Zpc hW];exact ih _ w es
 | @freeze a n k k' _ ih=>exact λw es=>by simp only[Sem.run,Sem.runT];rw[<-ZoM hW];exact Out.still (w1:=w.freeze a n) (Jn.freeze hW _ _ _) (by rw[Zpd];exact XB _) (ih _ es)
 |frozen _ ih=>exact λw es=>by simp only[Sem.run,Sem.runT];rw[Zod hW];exact ih _ w es
 | @getObj r k k' _ _ _ ih ih1 ih2=>
   intro w es;simp only[Sem.run,Sem.runT];rw[Znw];cases ho:w.heap[r]? with
   |none=>exact .inl ⟨_,_,rfl,trivial⟩
   |some o=>
    have A3:=(YF.1 ho).1;by_cases hw:Rd W o
    ·rw[XI,Znu hw]
     have:=λes=>show Out W A w es ((k o).run PA (clean W w)) ((k' o).runT PB w es) by
      rcases hw with hw|⟨c,e,rfl⟩
      ·exact ih o hw w es
      ·exact ih1 c e w es
     cases o<;>first|exact .inl ⟨_,_,rfl,trivial⟩|exact Out.one (Jn.refl _ _) (XB _) (Zoz A3) (this _)
    ·rw[XI,Znt hw];have:=ih2 o hw w;cases o<;>first|exact(hw (ZnE hW _ _ _)).elim|exact Out.one (Jn.refl _ _) (XB _) (Zoz A3) (this _)
 | @setObj r o k k' Ef _ ih=>
   intro w es;simp only[Sem.run,Sem.runT];rw[Znw];cases ho:w.heap[r]? with
   |none=>exact .inl ⟨_,_,rfl,trivial⟩
   |some o'=>
    have A3:=(YF.1 ho).1
    have key:∀es',Out W A {w with heap:=w.heap.setIfInBounds r o} es' (k.run PA {clean W w with heap:=(clean W w).heap.setIfInBounds r o}) (k'.runT PB {w with heap:=w.heap.setIfInBounds r o} es'):=λes'=>by
     rw[<-ZoL Ef];exact ih _ es'
    by_cases hw:Rd W o'
    ·rw[XI,Znu hw];cases o'<;>first|exact .inl ⟨_,_,rfl,trivial⟩|exact Out.one (w1:={w with heap:=w.heap.setIfInBounds r o}) (Jn.set hW Ef _) (by simp) (Zoz (by simpa using A3)) (key _)
    ·rw[XI,Znt hw];cases o'<;>first|exact(hw (ZnE hW _ _ _)).elim|exact Out.one (w1:={w with heap:=w.heap.setIfInBounds r o}) (Jn.set hW Ef _) (by simp) (Zoz (by simpa using A3)) (key _)
 | @choose q k k' _ ih=>
   intro w es;simp only[Sem.run,Sem.runT];split
   ·exact ih 0 w es
   ·exact Out.still (w1:={w with drawn:=w.drawn+1}) ⟨λ_ _ h=> .inl h,λ_ _ _ h=>h⟩ (XB _) (ih _ {w with drawn:=w.drawn+1} es)
 | @sys c k k' _ ih=>
   intro w es;simp only[Sem.run,Sem.runT];rw[Zq1];have hh:=Zq0 w c;exact Out.one (w1:=(w.sys c).2) ⟨λb o hb=> .inl (by rw[hh];exact hb),λb c e hb=>by rw[hh] at hb;exact hb⟩ (by rw[hh];exact XB _) (e:=⟨.output,true,false⟩) ⟨trivial,by simp,by simp⟩ (ih _ _ _)
 |program _ ih=>exact λw es=>ih w es
 | @mark m k k' hm _ ih=>exact λw es=>Out.one (Jn.refl _ _) (XB _) (e:=⟨.mark m,false,true⟩) (by cases m<;>first|exact hm.elim|exact⟨trivial,by simp,by simp⟩) (ih w _)
 |panic=>exact λw es=> .inr ⟨w,#[],Jn.refl _ _,XB _,λe he=>by simp at he,.inr (.inl ⟨_,rfl,by simp[Sem.runT]⟩)⟩
 |dead h=>exact λw es=> .inl ⟨_,_,rfl,h⟩
 |markDead h=>exact λw es=> .inl ⟨_,_,rfl,h⟩
end
end
section
open Go.Conc
open Go.Nk (Ban Z6 Z3Y Z0J Zpp Zcz Z4u ZdK Z3k Z0B Z0S Z0P Z2E Z2F Z2G Z6f)
variable [Ban]
section
variable (P:Program)(fs:Array Func)
theorem ZqC{γ:Type}{c:Prop}(i j:Decidable c)(a b:γ): @ite γ c i a b= @ite γ c j a b:=by congr
theorem ZoA(t:TypeId):(Z6 P fs).underlyingId t=P.underlyingId t:=rfl
theorem withF_sameLayout:∀d,sameLayout (Z6 P fs) d=sameLayout P d
 |0=>rfl
 |d+1=>by
  funext t u;simp only[sameLayout,withF_sameLayout d,Z0J,ZoA,Z2F]
theorem ZnX(f:TypeId->Bool):∀d,rowAt (Z6 P fs) f d=rowAt P f d
 |0=>rfl
 |d+1=>by
  funext e c o n;simp only[rowAt,ZnX f d,Z0J,Z0B,Z2F];rfl
theorem withF_liesAt:∀d,liesAt (Z6 P fs) d=liesAt P d
 |0=>rfl
 |d+1=>by
  funext e c o u n;simp only[liesAt,withF_liesAt d,Z0J,ZnX,withF_sameLayout,Z3k]
theorem withF_holdsStoodIn:∀d,(Z6 P fs).holdsStoodIn d=P.holdsStoodIn d
 |0=>rfl
 |d+1=>by
  funext t;simp only[Program.holdsStoodIn,withF_holdsStoodIn d,Z0J,Z2F]
theorem ZoR(t:TypeId):(Z6 P fs).packed t=P.packed t:=by
 unfold Program.packed Program.packedAs;simp only[Z6f];rfl
theorem withF_holdsPacked:∀d,(Z6 P fs).holdsPacked d=P.holdsPacked d
 |0=>rfl
 |d+1=>by
  funext t;simp only[Program.holdsPacked,withF_holdsPacked d,Z0J,ZoR]
end
class Cx where
 P:Program
 fs:Array Func
 W:Obj->Prop
 ok:WOk W
 view:∀a t,W (.view a t)
 num:∀a l,W (.number a l)
 map:∀e c,W (.map e c)
 sit:∀s n,W (.stringIter s n)
 mit:∀a b c d,W (.mapIter a b c d)
variable [Cx]
open Cx
class S{α:Type}(X:Sem α):Prop where
 h:SE (Z6 P fs) P W (λ_=>True) X X
section
variable {α β:Type}
theorem S.to{B:β->Prop}{X:Sem α}{f g:α->Sem β}[S X](hf:∀a,SE (Z6 P fs) P W B (f a) (g a)):SE (Z6 P fs) P W B (X>>=f) (X>>=g):=S.h.bind λa _=>hf a
theorem S.bindT{X:Sem α}{f:α->Sem β}(h:S X)(hf:∀a,S (f a)):S (X>>=f):=⟨h.h.bind λa _=>(hf a).h⟩
instance {X:Sem α}{f:α->Sem β}[S X][∀a,S (f a)]:S (X>>=f):=S.bindT inferInstance inferInstance
theorem S.prog{g:Program->Sem β}(e:g (Z6 P fs)=g P)(h:S (g P)):S (Go.program>>=g):=⟨.program (by show SE _ _ _ _ (g (Z6 P fs)) (g P);rw[e];exact h.h)⟩
theorem S.ite{c:Prop}[Decidable c]{X Y:Sem β}(h:c->S X)(h':¬c->S Y):S (if c then X else Y):=by
 by_cases hc:c
 ·rw[YZ hc];exact h hc
 ·rw[XA hc];exact h' hc
instance {a:α}:S (Pure.pure a:Sem α):=⟨.pure trivial⟩
instance {s:String}:S (stuck s:Sem α):=⟨.dead (h:= .stuck s) trivial⟩
theorem S.unsup{u:Unsupported}(h:∀g,u≠.initOrder g):S (unsupported u:Sem β):=⟨.dead (h:= .unsupported u) (by cases u<;>first|trivial|exact absurd rfl (h _))⟩
instance {v:Value}:S (goPanic v:Sem α):=⟨.panic⟩
instance (a:Addr)(m:Mode):S (Go.load a m):=⟨.load λ_=> .pure trivial⟩
instance (a:Addr)(v:Value)(m:Mode):S (Go.store a v m):=⟨.store (.pure trivial)⟩
theorem S.new(o:Obj)(h:W o):S (newObj o):=⟨.new h λ_=> .pure trivial⟩
instance (c e f):S (newObj (.cells c e f)):=S.new _ (ok.cells _ _ _)
instance (a t):S (newObj (.view a t)):=S.new _ (view _ _)
instance (a l):S (newObj (.number a l)):=S.new _ (num _ _)
instance (e c):S (newObj (.map e c)):=S.new _ (map _ _)
instance (r e c):S (setObj r (.map e c)):=⟨.setObj (map _ _) (.pure trivial)⟩
instance (r:Nat):S (Go.shape r):=⟨.shape λ_=> .pure trivial⟩
instance (a:Addr)(n:Nat):S (Go.freeze a n):=⟨.freeze (.pure trivial)⟩
instance (a:Addr):S (Go.frozen a):=⟨.frozen λ_=> .pure trivial⟩
theorem S.getB{r:Nat}{f:Obj->Sem β}(hk:∀o,¬Rd W o->SE (Z6 P fs) P W (λ_=>True) (f Knob) (f o))(h:∀o,S (f o)):S (getObj r>>=f):=⟨.getObj (λo _=>(h o).h) (λc e=>(h _).h) hk⟩
instance (q:Question):S (Go.choose q):=⟨.choose λ_=> .pure trivial⟩
instance (c:Sys):S (Go.sys c):=⟨.sys λ_=> .pure trivial⟩
instance :S (Go.mark .noRoom):=⟨.mark trivial (.pure trivial)⟩
instance {γ σ:Type}(f:γ->σ->Sem (ForInStep σ))[h:∀x s,S (f x s)](l:List γ)(s:σ):S (forIn l s f):=by
 induction l generalizing s with
 |nil=>exact⟨.pure trivial⟩
 |cons x l ih=>
  rw[List.forIn_cons];refine S.bindT (h x s) λr=> ?_
  cases r<;>first|exact⟨.pure trivial⟩|exact ih _
theorem S.forA{γ σ:Type}(f:γ->σ->Sem (ForInStep σ))(h:∀x s,S (f x s))(l:Array γ)(s:σ):S (forIn l s f):=by
 rw[<-RD]
 infer_instance
theorem S.forR{σ:Type}(f:Nat->σ->Sem (ForInStep σ))(h:∀x s,S (f x s))(l:Std.Legacy.Range)(s:σ):S (forIn l s f):=by
 rw[VK]
 infer_instance
theorem S.mapL{γ δ:Type}(f:γ->Sem δ)(hf:∀x,S (f x))(l:List γ):S (l.mapM f):=by
 induction l with
 |nil=>rw[List.mapM_nil];infer_instance
 |cons x l ih=>rw[List.mapM_cons];infer_instance
theorem S.mapA{γ δ:Type}(f:γ->Sem δ)(hf:∀x,S (f x))(l:Array γ):S (l.mapM f):=by
 rw[SY];exact S.bindT (S.mapL f hf _) λ_=>⟨.pure trivial⟩
theorem S.of{X Y:Sem α}(e:X=Y)(h:S Y:=by(repeat' first|infer_instance|exact S.unsup (by simp)|(dsimp only)|((with_reducible refine S.prog ?_ ?_);focus first|(simp only[Z3Y,Z0J,Zpp,Zcz,Z4u,ZdK,Z3k,Z0B,Z0S,Z0P,Z2E,Z2F,Z2G,ZnX,withF_liesAt,withF_holdsPacked,withF_holdsStoodIn]<;>first|(with_reducible rfl)|exact ZqC _ _ _ _|rfl)|rfl)|with_reducible refine S.mapA _ (λ_=> ?_) _|with_reducible refine S.forA _ (λ_ _=> ?_) _ _|with_reducible refine S.forR _ (λ_ _=> ?_) _ _|((with_reducible refine S.getB ?_ λ_=> ?_);focus (intro o ho;cases o<;>first|exact(ho (.inr ⟨_,_,rfl⟩)).elim|exact(ho (.inl (by first|exact ok.cells _ _ _|exact view _ _|exact num _ _|exact map _ _|exact sit _ _|exact mit _ _ _ _))).elim|exact .dead (h:= .stuck _) trivial|exact .pure trivial))|with_reducible refine S.bindT ?_ λ_=> ?_|with_reducible refine S.ite (λ_=> ?_) (λ_=> ?_)|split|(intro _))):S X:=e▸h
instance (a n i acc):S (loadCellsFrom a i n acc):=by induction n generalizing i acc with|zero=>exact⟨.pure trivial⟩|succ n ih=>exact⟨.load λv=>(ih _ _).h⟩
instance (a vs i):S (storeCells a vs i):=by induction vs generalizing i with|nil=>exact⟨.pure trivial⟩|cons v vs ih=>exact⟨.store (ih _).h⟩
instance (n a acc):S (loadBytes a acc n):=by
 induction n generalizing a acc with
 |zero=>exact⟨.pure trivial⟩
 |succ n ih=>exact⟨.load λv=>by dsimp only[Sem.bind];split<;>first|exact(ih _ _).h|exact S.h (X:=stuck _)⟩
instance (t):S (typeInfo t):= .of (typeInfo.eq_def t)
instance (t):S (Go.underlying t):= .of (Go.underlying.eq_def t)
instance (t):S (sizeOf t):= .of (sizeOf.eq_def t)
instance (t):S (isAgg t):= .of (isAgg.eq_def t)
instance (t):S (zeroValue t):= .of (zeroValue.eq_def t)
instance (t):S (typeStr t):= .of (typeStr.eq_def t)
instance (t):S (elemOf t):= .of (elemOf.eq_def t)
instance (a n):S (loadCells a n):= .of (loadCells.eq_def a n)
instance (t a):S (loadVar t a):= .of (loadVar.eq_def t a)
instance (t a v):S (storeVar t a v):= .of (storeVar.eq_def t a v)
instance (t c):S (newRow t c):= .of (newRow.eq_def t c)
instance (t c):S (newVar t c):= .of (newVar.eq_def t c)
instance (t c n):S (part t c n):= .of (part.eq_def t c n)
instance (v):S (asIntOf v):= .of (asIntOf.eq_def v)
instance (v):S (asInt v):= .of (asInt.eq_def v)
instance (v):S (asBool v):= .of (asBool.eq_def v)
instance (v):S (asString v):= .of (asString.eq_def v)
instance (v):S (asAgg v):= .of (asAgg.eq_def v)
instance (e:RuntimeError):S (runtimePanic e:Sem α):=by
 unfold runtimePanic;refine S.prog rfl ?_;cases e<;>infer_instance
instance (k x y c):S (boundsPanic k x y c:Sem α):=by
 unfold boundsPanic;dsimp only;refine S.ite (λ_=>⟨.choose λ_=> ?_⟩) (λ_=>inferInstance);dsimp only[Sem.bind,Function.comp];exact S.h (X:=runtimePanic _)
instance (v):S (asAddr v):= .of (asAddr.eq_def v)
instance (r):S (viewAt r):= .of (viewAt.eq_def r)
instance (r):S (numberAt r):= .of (numberAt.eq_def r)
instance (r):S (cellsIn r):= .of (cellsIn.eq_def r)
instance (a):S (behindNumber a):= .of (behindNumber.eq_def a)
instance (a):S (noView a):= .of (noView.eq_def a)
instance (a):S (markStringish a):= .of (markStringish.eq_def a)
instance (a):S (stringish a):= .of (stringish.eq_def a)
instance (a b):S (mayBeOne a b):= .of (mayBeOne.eq_def a b)
instance (a b):S (sameAddr a b):= .of (sameAddr.eq_def a b)
instance (a b):S (samePointer a b):= .of (samePointer.eq_def a b)
instance (n):S (askRoom n):= .of (askRoom.eq_def n)
instance (a):S (byteOf a):= .of (byteOf.eq_def a)
instance (a c b):S (partAt a c b):= .of (partAt.eq_def a c b)
instance (a f):S (fieldPlace a f):= .of (fieldPlace.eq_def a f)
instance (a u n):S (variablesAt a u n):= .of (variablesAt.eq_def a u n)
instance (t b v):S (Instr.alloc t b v):= .of (Instr.alloc.eq_def t b v)
instance (t v):S (Instr.box t v):= .of (Instr.box.eq_def t v)
instance (v):S (Instr.sureAddr v):= .of (Instr.sureAddr.eq_def v)
instance (t v):S (Instr.loadAt t v):= .of (Instr.loadAt.eq_def t v)
instance (t v x):S (Instr.storeAt t v x):= .of (Instr.storeAt.eq_def t v x)
instance (t v n):S (Instr.fieldAt t v n):= .of (Instr.fieldAt.eq_def t v n)
instance (t v x):S (Instr.indexAt t v x):= .of (Instr.indexAt.eq_def t v x)
instance (v y c):S (Instr.sliceBound v y c):= .of (Instr.sliceBound.eq_def v y c)
instance (b l c x y z):S (Instr.sliceBounds b l c x y z):= .of (Instr.sliceBounds.eq_def b l c x y z)
instance (t v x y z):S (Instr.slice t v x y z):= .of (Instr.slice.eq_def t v x y z)
instance (t v x y z):S (Instr.sliceAt t v x y z):= .of (Instr.sliceAt.eq_def t v x y z)
instance (t v n):S (Instr.field t v n):= .of (Instr.field.eq_def t v n)
instance (t v x):S (Instr.index t v x):= .of (Instr.index.eq_def t v x)
instance (t v x):S (Instr.makeSlice t v x):= .of (Instr.makeSlice.eq_def t v x)
instance (t ps):S (Instr.build t ps):= .of (Instr.build.eq_def t ps)
instance (t n ps):S (Instr.buildSlice t n ps):= .of (Instr.buildSlice.eq_def t n ps)
instance (t v):S (Instr.makeInterface t v):= .of (Instr.makeInterface.eq_def t v)
instance (v x a b):S (Instr.typeAssert v x a b):= .of (Instr.typeAssert.eq_def v x a b)
instance (v n):S (Instr.extract v n):= .of (Instr.extract.eq_def v n)
instance (d t x y):S (Op.equalIn d t x y):=by
 induction d generalizing t x y with
 |zero=>exact S.unsup (by simp)
 |succ d ih=>exact .of (Op.equalIn.eq_def (d+1) t x y)
instance (d t x y):S (Op.eqGuardIn d t x y):=by
 induction d generalizing t x y with
 |zero=>exact S.unsup (by simp)
 |succ d ih=>exact .of (Op.eqGuardIn.eq_def (d+1) t x y)
instance (t x y):S (Op.equal t x y):= .of (Op.equal.eq_def t x y)
instance (op t x y a b):S (eqGuard op t x y a b):= .of (eqGuard.eq_def op t x y a b)
instance (op k x j y):S (Op.shift op k x j y):= .of (Op.shift.eq_def op k x j y)
instance (op k x y):S (Op.intArith op k x y):= .of (Op.intArith.eq_def op k x y)
instance (op k x y):S (Op.intDiv op k x y):= .of (Op.intDiv.eq_def op k x y)
instance (op k x y):S (Op.intBits op k x y):= .of (Op.intBits.eq_def op k x y)
instance (op k x y):S (Op.floatArith op k x y):= .of (Op.floatArith.eq_def op k x y)
instance (op k x y):S (Op.floatCmp op k x y):= .of (Op.floatCmp.eq_def op k x y)
instance (op x y):S (Op.intCmp op x y):= .of (Op.intCmp.eq_def op x y)
instance (op x y):S (Op.stringOp op x y):= .of (Op.stringOp.eq_def op x y)
instance (op x):S (Op.unary op x):= .of (Op.unary.eq_def op x)
instance (op k x y):S (Op.Complex.arith op k x y):= .of (Op.Complex.arith.eq_def op k x y)
instance (op k x y):S (Op.Complex.cmp op k x y):= .of (Op.Complex.cmp.eq_def op k x y)
instance (k x j):S (Conv.floatToFloat k x j):= .of (Conv.floatToFloat.eq_def k x j)
instance (k x j):S (Op.Complex.conv k x j):= .of (Op.Complex.conv.eq_def k x j)
instance (x y):S (Op.Complex.add x y):=inferInstanceAs (S (Op.Complex.arith .add .f64 x y))
instance (x y):S (Op.Complex.sub x y):=inferInstanceAs (S (Op.Complex.arith .sub .f64 x y))
instance (x y):S (Op.Complex.mul x y):=inferInstanceAs (S (Op.Complex.arith .mul .f64 x y))
instance (x y):S (Op.Complex.quo x y):=inferInstanceAs (S (Op.Complex.arith .quo .f64 x y))
instance (a b c d):S (Op.Complex.product a b c d):= .of (Op.Complex.product.eq_def a b c d)
instance (s a b c d):S (Op.Complex.corrected s a b c d):= .of (Op.Complex.corrected.eq_def s a b c d)
instance (a b c d):S (Op.Complex.quotient a b c d):= .of (Op.Complex.quotient.eq_def a b c d)
instance (op k a b c d):S (Op.complexOp op k a b c d):= .of (Op.complexOp.eq_def op k a b c d)
instance (a b):S (Op.twoPlaces a b):= .of (Op.twoPlaces.eq_def a b)
instance (k a b):S (Op.addrSub k a b):= .of (Op.addrSub.eq_def k a b)
instance (op a b):S (Op.addrCmp op a b):= .of (Op.addrCmp.eq_def op a b)
instance (k a n):S (Op.addrMod k a n):= .of (Op.addrMod.eq_def k a n)
instance (ts t xs):S (Builtin.unsafeAdd_ ts t xs):=by
 unfold Builtin.unsafeAdd_;obtain⟨l⟩:=xs;rcases l with _|⟨a,_|⟨b,_|⟨c,l⟩⟩⟩
 rotate_left 2
 ·cases a with
  |pointer p=>exact S.of rfl (S.bindT (X:=asInt b) inferInstance λn=> .of rfl)
  |_=>exact inferInstanceAs (S (stuck _))
 all_goals exact inferInstanceAs (S (stuck _))
instance (a l):S (asNumber a l):= .of (asNumber.eq_def a l)
instance (t x y):S (movedNumber t x y):= .of (movedNumber.eq_def t x y)
instance (t x y):S (movedPointer t x y):= .of (movedPointer.eq_def t x y)
instance (op t x y):S (binOp op t x y):= .of (binOp.eq_def op t x y)
instance (a):S (Conv.seenAt a):= .of (Conv.seenAt.eq_def a)
instance (s d x):S (Conv.unsafePointer s d x):= .of (Conv.unsafePointer.eq_def s d x)
instance (e s):S (Conv.stringToBytes e s):= .of (Conv.stringToBytes.eq_def e s)
instance (e s):S (Conv.stringToRunes e s):= .of (Conv.stringToRunes.eq_def e s)
instance (x):S (Conv.bytesToString x):= .of (Conv.bytesToString.eq_def x)
instance (x):S (Conv.runesToString x):= .of (Conv.runesToString.eq_def x)
instance (k n):S (Conv.intToInt k n):= .of (Conv.intToInt.eq_def k n)
instance (n):S (Conv.intToString n):= .of (Conv.intToString.eq_def n)
instance (k n):S (Conv.intToFloat k n):= .of (Conv.intToFloat.eq_def k n)
instance (k n j):S (Conv.floatToInt k n j):= .of (Conv.floatToInt.eq_def k n j)
instance (k a b j):S (Conv.complexToComplex k a b j):= .of (Conv.complexToComplex.eq_def k a b j)
instance (s d x):S (convert s d x):= .of (convert.eq_def s d x)
instance (a n):S (Builtin.holdsCells a n):= .of (Builtin.holdsCells.eq_def a n)
instance (s l n b x):S (Builtin.mayShare s l n b x):= .of (Builtin.mayShare.eq_def s l n b x)
instance (x):S (Builtin.lenOf x):= .of (Builtin.lenOf.eq_def x)
instance (s n x):S (Builtin.firstCells s n x):= .of (Builtin.firstCells.eq_def s n x)
instance (ts t xs):S (Builtin.append_ ts t xs):= .of (Builtin.append_.eq_def ts t xs)
instance (ts t xs):S (Builtin.len_ ts t xs):= .of (Builtin.len_.eq_def ts t xs)
instance (ts t xs):S (Builtin.cap_ ts t xs):= .of (Builtin.cap_.eq_def ts t xs)
instance (ts t xs):S (Builtin.copy_ ts t xs):= .of (Builtin.copy_.eq_def ts t xs)
instance (x y):S (Builtin.max2 x y):= .of (Builtin.max2.eq_def x y)
instance (x y):S (Builtin.min2 x y):= .of (Builtin.min2.eq_def x y)
instance (f:Value->Value->Sem Value)[h:∀x y,S (f x y)](l:List Value)(x:Value):S (l.foldlM f x):=by
 induction l generalizing x with
 |nil=>rw[List.foldlM_nil];infer_instance
 |cons y l ih=>rw[List.foldlM_cons];infer_instance
instance (ts t xs):S (Builtin.max_ ts t xs):= .of (Builtin.max_.eq_def ts t xs)
instance (ts t xs):S (Builtin.min_ ts t xs):= .of (Builtin.min_.eq_def ts t xs)
instance (ts t xs):S (Builtin.unsafeSliceData_ ts t xs):=by
 unfold Builtin.unsafeSliceData_;obtain⟨l⟩:=xs;rcases l with _|⟨a,_|⟨b,l⟩⟩
 rotate_left
 ·cases a with
  |slice a n c=>
   cases a with
   |none=>exact inferInstanceAs (S (pure _))
   |some a=>exact S.of (X:=if c≠0 then pure (Value.pointer (some a)) else do
     if(<-viewAt a.block).isSome then pure (Value.pointer (some a)) else pure (Value.pointer (some ⟨<-newObj (.view a (<-elemOf t)),0,none⟩))) rfl
  |_=>exact inferInstanceAs (S (stuck _))
 all_goals exact inferInstanceAs (S (stuck _))
instance (ts t xs):S (Builtin.unsafeString_ ts t xs):=by
 unfold Builtin.unsafeString_;obtain⟨l⟩:=xs;rcases l with _|⟨a,_|⟨b,_|⟨c,l⟩⟩⟩
 rotate_left 2
 ·cases a with
  |pointer p=>exact S.of rfl (S.bindT (X:=asInt b) inferInstance λn=> .of rfl)
  |_=>exact inferInstanceAs (S (stuck _))
 all_goals exact inferInstanceAs (S (stuck _))
instance (e d t v):S (Instr.checkKey e d t v):=by
 induction d generalizing t v with
 |zero=>exact S.unsup (by simp)
 |succ d ih=>exact .of (Instr.checkKey.eq_def e (d+1) t v)
instance (t k es i):S (Instr.findAsking t k es i):=by
 induction es generalizing i with
 |nil=>exact inferInstanceAs (S (pure _))
 |cons e es ih=>exact .of (Instr.findAsking.eq_def t k (e::es) i)
instance (t k es):S (Instr.findKey t k es):= .of (Instr.findKey.eq_def t k es)
instance (t x i b):S (Instr.lookup t x i b):= .of (Instr.lookup.eq_def t x i b)
instance (x y):S (Instr.keyThatStays x y):= .of (Instr.keyThatStays.eq_def x y)
instance (t m k v):S (Instr.mapUpdate t m k v):= .of (Instr.mapUpdate.eq_def t m k v)
instance (t r):S (Instr.makeMap t r):= .of (Instr.makeMap.eq_def t r)
instance (ts t a s m):S (Builtin.ssaWrapNilChk_ ts t #[a,.string s,.string m]):=by
 unfold Builtin.ssaWrapNilChk_;cases a with
 |pointer p=>
  cases p with
  |some a=>exact inferInstanceAs (S (pure _))
  |none=>exact S.of rfl (S.bindT (X:=choose _) inferInstance λn=> .of rfl)
 |_=>exact inferInstanceAs (S (stuck _))
instance (ts t a s m):S (Builtin.ssaWrapNilChk_ ts t #[a,strVal s,strVal m]):=inferInstanceAs (S (Builtin.ssaWrapNilChk_ ts t #[a,.string _,.string _]))
instance (t p):S (Place.get t p):= .of (Place.get.eq_def t p)
instance (l t x):S (follow l t x):=by
 induction l generalizing t x with
 |nil=>exact inferInstanceAs (S (pure _))
 |cons s l ih=>exact .of (follow.eq_def (s::l) t x)
instance (l t x):S (followBlind l t x):=by
 induction l generalizing t x with
 |nil=>exact inferInstanceAs (S (pure _))
 |cons s l ih=>exact .of (followBlind.eq_def (s::l) t x)
instance (t x b n):S (receiverAt t x b n):= .of (receiverAt.eq_def t x b n)
instance (t v p b):S (receiverVia t v p b):= .of (receiverVia.eq_def t v p b)
instance (d t v s):S (method d t v s):=by
 induction d generalizing t v s with
 |zero=>exact S.unsup (by simp)
 |succ d ih=>exact .of (method.eq_def (d+1) t v s)
instance (d t v s):S (nilAhead d t v s):=by
 induction d generalizing t v s with
 |zero=>exact inferInstanceAs (S (pure _))
 |succ d ih=>exact .of (nilAhead.eq_def (d+1) t v s)
instance :S (Instr.panicnil):= .of (Instr.panicnil.eq_def)
instance (x):S (Instr.panic x):= .of (Instr.panic.eq_def x)
end
instance (s n):S (newObj (.stringIter s n)):=S.new _ (sit _ _)
instance (a b c d):S (newObj (.mapIter a b c d)):=S.new _ (mit _ _ _ _)
instance (r s n):S (setObj r (.stringIter s n)):=⟨.setObj (sit _ _) (.pure trivial)⟩
instance (r a b c d):S (setObj r (.mapIter a b c d)):=⟨.setObj (mit _ _ _ _) (.pure trivial)⟩
instance (t x):S (Instr.range t x):=by
 refine S.of (Instr.range.eq_def t x) (S.bindT (X:=underlying t) inferInstance λd=> ?_);split
 ·exact⟨.new (sit _ _) λ_=> .pure trivial⟩
 ·exact⟨.new (mit _ _ _ _) λ_=> .pure trivial⟩
 ·refine⟨.getObj (λo _=> ?_) (λ_ _=> .dead (h:= .stuck _) trivial) λo ho=>by cases o<;>first|exact(ho (.inl (map _ _))).elim|exact .dead (h:= .stuck _) trivial⟩;cases o<;>first|exact .dead (h:= .stuck _) trivial|exact .new (mit _ _ _ _) λ_=> .pure trivial
 ·exact⟨.dead (h:= .stuck _) trivial⟩
instance (t x b):S (Instr.next t x b):= .of (Instr.next.eq_def t x b)
end
end Go.Ns
