import Derived.Test.YtedkbdkbbnemlaaGreatDoorNk27
import Derived.ArgAppend
import Derived.Deep.AppendLies
set_option linter.all false
namespace Go.Proofs.Tryq
set_option maxRecDepth 100000
set_option maxHeartbeats 4000000
open Go Go.Nk Go.RowKit
def bestV(x:Int×Int):Int×Int:=(wrap64 (x.2 - wrap64 ((wrap64 (wrap64 (x.2 - x.1)+1)).tdiv 2)),wrap64 ((wrap64 (wrap64 (x.2 - x.1)+1)).tdiv 2))
def Z8H(r0 r1 r2 r3:Int)(S:List Rs)(a:Int):Int×Int:=if ZA r0 r1 r2 r3 S a=0 then bestV (Z4L r0 r1 r2 r3 S a) else(0,0)
theorem Zc8(r0 r1 r2 r3:Int)(base:Option Addr)(n cap:Nat)(w:World)(at':Int)(S:List Rs)(A2:S.length=n)(hS:RawS w base S)(E2:Most w):
 Calls prog 51 #[.agg #[.int .i64 r0,.int .i64 r1,.int .i64 r2,.int .i64 r3,.slice base n cap],.int .i64 at'] w fun e w'=>
  e= .returned (.tuple #[.int .i64 (Z8H r0 r1 r2 r3 S at').1,.int .i64 (Z8H r0 r1 r2 r3 S at').2,.int .i64 (ZA r0 r1 r2 r3 S at')])/\Ext w w':=by
 go_enter func51,ntmps51;go_wp2_with fail;have Ai:Ext w _:=(Ext.rfl' w).alloc (.cells #[.int .i64 r0,.int .i64 r1,.int .i64 r2,.int .i64 r3,.slice base n cap] 70);have hb:(w.alloc (.cells #[.int .i64 r0,.int .i64 r1,.int .i64 r2,.int .i64 r3,.slice base n cap] 70)).heap[w.heap.size]? =some (.cells #[.int .i64 r0,.int .i64 r1,.int .i64 r2,.int .i64 r3,.slice base n cap] 70):=by
  simp only[Z3,Z2];rw[if_pos trivial]
 generalize World.alloc _ _=w1 at Ai hb⊢;have hX:=Ext.rfl' w1;have q0:=Z0 hb 0;have q1:=Z0 hb 1;have q2:=Z0 hb 2;have q3:=Z0 hb 3;have q4:=Z0 hb 4;simp only[List.getElem?_toArray,List.getElem?_cons_zero,List.getElem?_cons_succ] at q0 q1 q2 q3 q4;have g0:=Zet q0;have g1:=Zet q1;have g2:=Zet q2;have g3:=Zet q3;have g4:=Zet q4;refine Zfn 9 8 7 [0,1,2,3,4,5,6] (.cells #[.int .i64 0,.int .i64 0,.int .i64 0,.int .i64 0,.slice none 0 0,.slice none 0 0] 146) (by kernel_rfl) rfl (by kernel_rfl) rfl rfl (fun a W=>by simp[go_sem,execOp,Act.eval]) ?_;refine Zfj [0,1] (by kernel_rfl) rfl rfl (by kernel_rfl) ?_;simp only[ZeD,List.getElem?_cons_succ,List.getElem?_cons_zero,List.cons_append,List.nil_append]
 repeat (go_big_quiet_step (fail))
 refine wpQuiet_nil ?_;refine Zfk 2 rfl (by kernel_rfl) rfl (fun W hW=>Zfo (f:=104) (args:= #[.int .i64 at']) (by simp[go_sem,execOp,Act.eval]) ?_);refine(Z9v at' W).mono ?_;rintro e V0 ⟨p0,rfl,hF,Di⟩;refine⟨.func (.func 151) #[] #[.pointer (some ⟨p0,0,none⟩)],rfl,hF,?_⟩;replace hX:=hX.trans (hW.trans hF);clear hF hW;go_simp;refine Zfk 3 rfl (by kernel_rfl) rfl (fun W hW=>Zf3 ⟨.slice (some ⟨W.heap.size,0,none⟩) 1 1,W.alloc (.cells #[.func (.func 151) #[] #[.pointer (some ⟨p0,0,none⟩)]] 127),by simp[go_sem,execOp,Act.eval],(Ext.rfl' W).alloc _,?_⟩);have C7:=Z30 W #[.func (.func 151) #[] #[.pointer (some ⟨p0,0,none⟩)]] [(151,#[],#[.pointer (some ⟨p0,0,none⟩)])] W.heap.size rfl rfl;have hF:=(hW.alloc (.cells #[.func (.func 151) #[] #[.pointer (some ⟨p0,0,none⟩)]] 127));replace hX:=hX.trans hF;replace Di:=hF.cellS Di;clear hF hW;generalize W.heap.size=B2 at C7⊢;generalize World.alloc W _=V9 at*;go_simp;refine Zfk 4 rfl (by kernel_rfl) rfl (fun W hW=>Zfo (f:=103) (args:= #[.agg #[.int .i64 r0,.int .i64 r1,.int .i64 r2,.int .i64 r3,.slice base n cap],.slice (some ⟨B2,0,none⟩) 1 1]) (by simp[go_sem,execOp,Act.eval]) ?_)
 refine(Z4K r0 r1 r2 r3 base n cap W 1 B2 (by omega) [(151,#[],#[.pointer (some ⟨p0,0,none⟩)])] [Zv at'] rfl rfl (fun j x hj=>hW.cellS (C7 j x hj)) (by intro x hx args w';simp only[List.mem_cons,List.not_mem_nil,or_false] at hx;rcases hx with rfl<;>simp[go_sem]) (by
       intro j x r hj hr w' hw'
       match j,hj,hr with
       |0,hj,hr=>
        obtain rfl:=Option.some.inj hj;obtain rfl:=Option.some.inj hr;exact Z3x p0 at' w' ((hW.trans hw').cellS Di)) S A2 (hS.ext (Ai.trans (hX.trans hW))) (E2.ext (Ai.trans (hX.trans hW)))).mono ?_
 rintro e V10 ⟨k0,k1,k2,k3,b4,n4,c4,b5,n5,c5,rfl,hF,Cc⟩;refine⟨.tuple #[.agg #[.int .i64 k0,.int .i64 k1,.int .i64 k2,.int .i64 k3,.slice b4 n4 c4,.slice b5 n5 c5],.int .i64 (firstV (Zy r0 r1 r2 r3 S [Zv at']))],rfl,hF,?_⟩;replace hX:=hX.trans (hW.trans hF);have Aq:Askd r0 r1 r2 r3 base n cap S [Zv at'] k0 k1 k2 k3 b4 n4 c4 b5 n5 c5 V10:=fun h=>by obtain⟨B,p,h0,h1,h2,h3,h4,h5,h6,h7,h8,h9,hC,_⟩:=Cc h;exact⟨B,p,h0,h1,h2,h3,h4,h5,h6,h7,h8,h9,hC⟩
 clear hF hW Cc C7 Di;go_simp;refine Zfj [5,6,7] (by kernel_rfl) rfl rfl (by kernel_rfl) ?_;simp only[ZeD,List.getElem?_cons_succ,List.getElem?_cons_zero,List.cons_append,List.nil_append]
 repeat (go_big_quiet_step (fail))
 refine wpQuiet_nil ?_;refine Zfq (by kernel_rfl) (fun W hW b hA Bi Al=> ?_);have Gl:w1.heap.size<=b:=hA.1.1.1;replace hX:=hX.trans hW;replace Aq:=Aq.ext hW;clear hW;go_simp;refine Zfp 2 (by kernel_rfl) (fun W hW=> ?_);simp only[List.drop_succ_cons,List.drop_zero];replace hX:=hX.trans hW;replace Aq:=Aq.ext hW;replace Al:=hW.get Al;have D6:w.heap.size<=b:=by have h1:=Gl;have h2:=Ai.size;omega
 have B4:=Ai.trans hX;clear hA Gl Bi hW hX Ai hb q0 q1 q2 q3 q4 g0 g1 g2 g3 g4;have x0:=Z8 Al 0;have x1:=Z8 Al 1;have x2:=Z8 Al 2;have x3:=Z8 Al 3;have x4:=Z8 Al 4;have x5:=Z8 Al 5;have y0:=Z0 Al 0;have y1:=Z0 Al 1;have y2:=Z0 Al 2;have y3:=Z0 Al 3;have y4:=Z0 Al 4;have y5:=Z0 Al 5;simp only[List.getElem?_toArray,List.getElem?_cons_zero,List.getElem?_cons_succ] at y0 y1 y2 y3 y4 y5;have Ac:=Z0K Al (.int .i64 k0) (.int .i64 k1) (.int .i64 k2) (.int .i64 k3) (.slice b4 n4 c4) (.slice b5 n5 c5);obtain⟨hX,Dj⟩:=Ac;replace Aq:=Aq.stored Al Dj;replace B4:=Dj.before B4 D6;go_wp2_with fail;generalize ((((((W.setCell ⟨b,0,none⟩ (.int .i64 k0)).setCell ⟨b,1,none⟩ (.int .i64 k1)).setCell ⟨b,2,none⟩ (.int .i64 k2)).setCell ⟨b,3,none⟩ (.int .i64 k3)).setCell ⟨b,4,none⟩ (.slice b4 n4 c4)).setCell ⟨b,5,none⟩ (.slice b5 n5 c5))=X at hX Aq B4 Dj⊢;clear Dj Al D6 x0 x1 x2 x3 x4 x5 y0 y1 y2 y3 y4 y5;refine Zfm ?_;go_wp2_with fail
 ·have A8:(firstV (Zy r0 r1 r2 r3 S [Zv at']) !=0)=true:=by assumption
  have Br:¬ZA r0 r1 r2 r3 S at'=0:=by simpa[ZA] using A8
  go_ret3;exact⟨by rw[Z8H,if_neg Br];rfl,B4⟩
 ·have heq:(firstV (Zy r0 r1 r2 r3 S [Zv at']) !=0)=false:=by assumption
  have Br:firstV (Zy r0 r1 r2 r3 S [Zv at'])=0:=by simpa using heq
  obtain⟨G1,D7,Bq,Nm⟩:=Z11 Br;obtain⟨_,h8,_⟩:=Z0i G1;have Cm:=Z0N (D7 (Zv at') (by simp));obtain⟨d,rfl⟩:=Int.eq_ofNat_of_zero_le Cm.1;have Ei:d<=90:=by omega
  obtain⟨B,p',e0,e1,e2,e3,e4,e5,e6,e7,e8,e9,hC⟩:=Aq Br;subst k0 k1 k2 k3 b4 n4 c4 b5 n5 c5;have Ee:n<=8:=by omega
  have Be:=fun v w'=>Z08 r0 r1 r2 r3 base n cap v Ee w'
  have hat:=fun w' hm' hC'=>Z2Y r0 r1 r2 r3 (.slice base n cap) B n d (2 ^ n - 1) p' (cvS r0 r1 r2 r3 (S.map Ze)) Ee Ei (Z2Z Ee) w' hm' hC'
  have HV:Hid (Z4L r0 r1 r2 r3 S d=atF (cvS r0 r1 r2 r3 (S.map Ze)) (2 ^ n - 1) d n):=by
   show _=_;rw[Z4L,Int.toNat_natCast,A2]
  have E0:Hid (ZA r0 r1 r2 r3 S d=0):=Br;have Fc:=E2.ext B4;clear Aq G1 D7 Bq Nm heq Br Cm;generalize (2:Int) ^ n - 1=st at Be hat HV;generalize atF (cvS r0 r1 r2 r3 (S.map Ze)) st d n=V at hat HV;obtain⟨va,vb⟩:=V;have x0:=Z0 hX 0;have x1:=Z0 hX 1;have x2:=Z0 hX 2;have x3:=Z0 hX 3;have x4:=Z0 hX 4;have x5:=Z0 hX 5;simp only[List.getElem?_toArray,List.getElem?_cons_zero,List.getElem?_cons_succ] at x0 x1 x2 x3 x4 x5;have c0:=Zet x0;have c1:=Zet x1;have c2:=Zet x2;have c3:=Zet x3;have c4:=Zet x4;have c5:=Zet x5;refine Zfn 6 5 8 [0,1,2,3,4] (.cells #[.int .i64 0,.int .i64 0] 48) (by kernel_rfl) rfl (by kernel_rfl) rfl rfl (fun a W=>by simp[go_sem,execOp,Act.eval]) ?_;refine Zfj [0,1,3] (by kernel_rfl) rfl rfl (by kernel_rfl) ?_;simp only[ZeD,List.getElem?_cons_succ,List.getElem?_cons_zero,List.cons_append,List.nil_append]
  repeat (go_big_quiet_step (fail))
  refine wpQuiet_nil ?_;refine Zfr 2 (f:=106) (args:= #[.agg #[.int .i64 r0,.int .i64 r1,.int .i64 r2,.int .i64 r3,.slice base n cap,.slice (some ⟨B,0,none⟩) n n]]) (v:= .int .i64 st) (by kernel_rfl) rfl rfl rfl (by kernel_rfl) rfl (fun W=>by simp[go_sem,execOp,Act.eval]) (fun W _=>Be _ W) ?_;go_simp;refine Zfr 4 (f:=105) (args:= #[.agg #[.int .i64 r0,.int .i64 r1,.int .i64 r2,.int .i64 r3,.slice base n cap,.slice (some ⟨B,0,none⟩) n n],.int .i64 st,.int .i64 d]) (v:= .agg #[.int .i64 va,.int .i64 vb]) (by kernel_rfl) rfl rfl rfl (by kernel_rfl) rfl (fun W=>by simp[go_sem,execOp,Act.eval]) (fun W hW=>hat W (Fc.ext hW) (hC.ext hW)) ?_;go_simp;refine Zfq (by kernel_rfl) (fun W hW b hA Bi Al=> ?_);obtain⟨bx,rfl⟩:∃bx,bx=b:=⟨_,rfl⟩;have Av:=hW;clear hW;go_simp;refine Zfp 1 (by kernel_rfl) (fun W hW=> ?_);simp only[List.drop_succ_cons,List.drop_zero];replace Al:=hW.get Al;have Bz:=(B4.trans Av).trans hW;have D6:w.heap.size<=bx:=by have h1:=hA;have h2:=B4.size;omega
  have Gx:=set_pair Al (.int .i64 va) (.int .i64 vb);have K9:=(Bz.setCell ⟨bx,0,none⟩ (.int .i64 va) D6).setCell ⟨bx,1,none⟩ (.int .i64 vb) D6;have g:=Zc Al;have g0:=g.1;have g1:=g.2.1;have g2:=g.2.2.1;have g3:=g.2.2.2;clear g Bz B4 hW Av D6 hA Bi hC Fc Be hat hX x0 x1 x2 x3 x4 x5 c0 c1 c2 c3 c4 c5;go_wp2_with fail;generalize (W.setCell ⟨bx,0,none⟩ (.int .i64 va)).setCell ⟨bx,1,none⟩ (.int .i64 vb)=Y at Gx K9⊢;clear g0 g1 g2 g3 Al;refine Zfm ?_;have g:=Zc Gx;have g0:=g.1;have g1:=g.2.1;have g2:=g.2.2.1;have g3:=g.2.2.2;go_wp2;go_ret3;exact⟨by rw[Z8H,if_pos E0.out,E0.out,HV.out];rfl,K9⟩
end Go.Proofs.Tryq
namespace Go.Proofs.Tryq
open Go Go.Nk Go.RowKit
set_option linter.all false
structure Fine(r0 r1 r2 r3:Int)(S:List Rs):Prop where
 cf:ZC r0 r1 r2 r3 S=0
 ne:S≠[]
 ft:Z20 r0 r1 r2 r3 S (upL S.length)=true
section
variable {r0 r1 r2 r3:Int} {S:List Rs} (hg:Fine r0 r1 r2 r3 S)
include hg
end
set_option linter.all false
section
variable {r0 r1 r2 r3:Int} {S:List Rs} (hg:Fine r0 r1 r2 r3 S)
include hg
end
end Go.Proofs.Tryq
namespace Go.Nk
open Go Go.Region
open Go.Proofs.Tryq (Ext Z3 Z2)
variable {P:Program} {ops:Array Oper} {Q:Exit->Act->World->Prop}
variable {n:Nat} {Dl:List (Option Tmp)} {S:List (Option Value)} {L0:Tmp->Value} {M:(Nat->Bool)->(Tmp->Value)->World->Prop} {ℓ:Nat->Bool} {a:Act} {w w':World} {i:Nat} {o:Oper}
end Go.Nk
namespace Go.Proofs.Tryq
set_option maxRecDepth 100000
open Go Go.Nk Go.RowKit
theorem Z4r(n lo hi:Int)(w:World):Calls prog 93 #[.int .i64 n,.int .i64 lo,.int .i64 hi] w fun e w'=>e= .returned (.bool (decide (lo<=n/\n<=hi)))/\w'=w:=by
 by_cases h1:lo<=n
 ·by_cases h2:n<=hi
  ·go_enter func93,ntmps93;go_wp2;go_ret;exact⟨ZP (a:=true) (by rw[Bool.eq_iff_iff];simp<;>omega),rfl⟩
  ·go_enter func93,ntmps93;go_wp2;go_ret;exact⟨ZP (a:=false) (by rw[Bool.eq_iff_iff];simp<;>omega),rfl⟩
 ·go_enter func93,ntmps93;go_wp2;go_ret;exact⟨ZP (a:=false) (by rw[Bool.eq_iff_iff];simp<;>omega),rfl⟩
def inR(n lo hi:Int):Bool:=decide (lo<=n/\n<=hi)
theorem in_r(n lo hi:Int)(w:World):Calls prog 93 #[.int .i64 n,.int .i64 lo,.int .i64 hi] w fun e w'=>e= .returned (.bool (inR n lo hi))/\w'=w:=Z4r n lo hi w
theorem Z2e(a b lo hi:Int)(w:World):Calls prog 95 #[.agg #[.int .i64 a,.int .i64 b],.int .i64 lo,.int .i64 hi] w fun e w'=>e= .returned (.bool (decide (lo<=a/\a<=b/\b<=hi)))/\Ext w w':=by
 have hr:=fun n w=>in_r n lo hi w
 have H:Hid (decide (lo<=a/\a<=b/\b<=hi)=(inR a lo hi&&(inR b lo hi&&decide (a<=b)))):=by
  show _=_;simp only[inR];rw[Bool.eq_iff_iff];simp;omega
 cases h1:inR a lo hi with
 |false=>
  have E6:=hr a;simp only[h1] at E6;rw[h1] at H;go_enter func95,ntmps95;go_wp2_with (go_at_call 93;(with_reducible refine(E6 _).mono ?_);rintro e w2 ⟨rfl,rfl⟩);go_ret;exact⟨ZP (a:=false) (by rw[H.out];simp),(Ext.rfl' w).alloc _⟩
 |true=>
  have E6:=hr a;simp only[h1] at E6;rw[h1] at H;cases h2:inR b lo hi with
  |false=>
   have Dw:=hr b;simp only[h2] at Dw;rw[h2] at H;go_enter func95,ntmps95;go_wp2_with (first|(go_at_call 93;(with_reducible refine(E6 _).mono ?_);rintro e w2 ⟨rfl,rfl⟩)|(go_at_call 93;(with_reducible refine(Dw _).mono ?_);rintro e w2 ⟨rfl,rfl⟩));go_ret;exact⟨ZP (a:=false) (by rw[H.out];simp),(Ext.rfl' w).alloc _⟩
  |true=>
   have Dw:=hr b;simp only[h2] at Dw;rw[h2] at H;go_enter func95,ntmps95;go_wp2_with (first|(go_at_call 93;(with_reducible refine(E6 _).mono ?_);rintro e w2 ⟨rfl,rfl⟩)|(go_at_call 93;(with_reducible refine(Dw _).mono ?_);rintro e w2 ⟨rfl,rfl⟩));go_ret;exact⟨ZP (a:=decide (a<=b)) (by rw[H.out];simp),(Ext.rfl' w).alloc _⟩
theorem Z4s(c:UInt8)(w:World):Calls prog 139 #[.int .u8 c.toNat] w fun e w'=>e= .returned (.bool (Z8N c.toNat))/\w'=w:=by
 by_cases h1:(97:Int)<=c.toNat
 ·by_cases h2:(c.toNat:Int)<=122
  ·go_enter func139,ntmps139;go_wp2;go_ret;exact⟨ZP (a:=true) (decide_eq_true (by omega)).symm,rfl⟩
  ·go_enter func139,ntmps139;go_wp2;go_ret;exact⟨ZP (a:=false) (decide_eq_false (by omega)).symm,rfl⟩
 ·go_enter func139,ntmps139;go_wp2;go_ret;exact⟨ZP (a:=false) (decide_eq_false (by omega)).symm,rfl⟩
theorem ZaO(c:UInt8)(w:World):Calls prog 140 #[.int .u8 c.toNat] w fun e w'=>e= .returned (.bool (Ze0 c.toNat))/\w'=w:=by
 by_cases h1:(48:Int)<=c.toNat
 ·by_cases h2:(c.toNat:Int)<=57
  ·go_enter func140,ntmps140;go_wp2;go_ret;exact⟨ZP (a:=true) (decide_eq_true (by omega)).symm,rfl⟩
  ·go_enter func140,ntmps140;go_wp2;go_ret;exact⟨ZP (a:=false) (decide_eq_false (by omega)).symm,rfl⟩
 ·go_enter func140,ntmps140;go_wp2;go_ret;exact⟨ZP (a:=false) (decide_eq_false (by omega)).symm,rfl⟩
theorem Z6Z(a b c m:Int)(k:Nat)(hk:k<3)(w:World):Calls prog 99 #[.agg #[.int .i64 a,.int .i64 b,.int .i64 c,.int .i64 m],.int .i64 k] w fun e w'=>e= .returned (.int .i64 (alw a b c k))/\Ext w w':=by
 have Yg:k=0\/k=1\/k=2:=by omega
 rcases Yg with rfl|rfl|rfl
 all_goals
  go_enter func99,ntmps99;go_wp2;go_ret;exact⟨rfl,((Ext.rfl' w).alloc _).alloc _⟩
theorem Z31(x:Sf)(k:Nat)(hk:k<3)(w:World):Calls prog 33 #[.agg (sfC x),.int .i64 k] w fun e w'=>e= .returned (.agg #[.int .i64 (spA x k).1,.int .i64 (spA x k).2])/\Ext w w':=by
 have Yg:k=0\/k=1\/k=2:=by omega
 simp only[sfC];rcases Yg with rfl|rfl|rfl
 all_goals
  go_enter func33,ntmps33;go_wp2;refine bodyPost_ret (v:= .agg #[.int .i64 _,.int .i64 _]) ((Z07 rfl _ _ _).trans ?_) rfl ⟨rfl,(((Ext.rfl' w).alloc _).alloc _).alloc _⟩;simp[go_sem,spA]
end Go.Proofs.Tryq
namespace Go.Proofs.Tryq
set_option maxRecDepth 100000
set_option maxHeartbeats 2000000
open Go Go.Nk Go.RowKit
theorem Zg9(n:Nat)(w:World)(hn:n<=1000):Calls prog 44 #[.int .i64 n] w fun e w'=>∃x,e= .returned x/\OwnI w.heap.size w' x (upL n)/\Ext w w':=by
 obtain⟨N,hN⟩:∃N,N=w.heap.size:=⟨_,rfl⟩;rw[<-hN];go_enter func44,ntmps44;go_wp2;go_loopw [3,4] (fun v3 v4 wr=>∃i:Nat,i<=n/\v4= .int .i64 i/\OwnI N wr v3 (upL i)/\Ext w wr) (fun _ v4 _=>n - (intOf v4).toNat)
 case atStart=>exact⟨0,Nat.zero_le _,rfl,World.ownsRow_nil _ _ _ _,Ext.rfl' w⟩
 case round=>
  rename_i v3 _;obtain⟨i,hi,rfl,A9,hE⟩:=hrel;by_cases h0:i=n
  ·subst h0;go_wp2;go_ret;exact⟨_,rfl,A9,hE⟩
  ·have A3:i<n:=by omega
   have C9:(i:Int)<(n:Int):=by omega
   have hs:=hE.size;have H3:Hid (upL (i+1)=upL i++[(i:Int)]):=by show _=_;simp[upL,List.range_succ]
   obtain⟨l,hl⟩:∃l,l=upL i:=⟨_,rfl⟩;have I5:l.length=i:=by rw[hl];simp[upL]
   rw[<-hl] at A9 H3;clear hl
   go_wp2_with (
    at_builtin
    refine wpList_append_own _ rfl _ _ _ rfl N 3 Tryz.t3 (.int .i64 0) 1 8 u27 i3 t3z t3s t3b rfl (by omega) _ _ _ rfl (A9.alloc _) ⟨wr.heap.size,0,none⟩ 1 1 [.int .i64 i] rfl rfl (Z1N _ _ _) (by intro u hu;simp at hu;subst hu;rfl) (by(try simp[maxLen]);omega) (by(try simp);omega) (by(try simp only[Z2]);omega) ?_;intro v' w3 Af Ab _;have Ag:Ext w w3:=(hE.alloc _).grown Ab (fun k hk=>by have:=(A9.lt k hk).1;omega))
   go_roundw
   case rel=>exact⟨i+1,by omega,by push_cast;rfl,by rw[H3.out];simpa[OwnI] using Af,Ag⟩
   case measure=>simp[intOf];omega
end Go.Proofs.Tryq
namespace Go.Proofs.Tryq
open Go Go.Nk Go.RowKit
set_option linter.all false
theorem Zh7(b o j:Nat):(⟨b,o,none⟩:Addr).add j=⟨b,o+j,none⟩:=by unfold Addr.add;split<;>simp_all
set_option linter.all false
theorem OwnI.raw2{b:Nat}{w:World}{v:Value}{l:List Int}(h:OwnI b w v l):∃ao cp,v= .slice ao l.length cp/\(ao=none->cp=0)/\l.length<=cp/\RawI w ao l:=by
 rcases h.2 with⟨rfl,h0⟩|⟨g,cp,cu,rfl,_,_,h1,_⟩
 ·have:l=[]:=List.length_eq_zero_iff.1 h0;subst this;exact⟨none,0,rfl,fun _=>rfl,Nat.le_refl _,fun i x hx=>by simp at hx⟩
 ·exact⟨_,cp,rfl,(fun h=>nomatch h),h1,OwnI.raw h⟩
theorem OwnI.one{b:Nat}{w:World}{v:Value}{l:List Int}(h:OwnI b w v l):v.oneCell'=true:=by
 obtain⟨ao,cp,rfl,_⟩:=h.raw2;rfl
theorem Shr.cells{B:Nat}{w:World}{g n cp:Nat}{ls:List (List Int)}(h:Shr B w (.slice (some ⟨g,0,none⟩) n cp) ls){j:Nat}{s:List Int}(hs:ls[j]? =some s):∃ao c,w.cell? ⟨g,j,none⟩=some (.slice ao s.length c)/\(ao=none->c=0)/\s.length<=c/\RawI w ao s:=by
 obtain⟨_,vs,h1,h2⟩:=h;obtain⟨u,hu,Ci⟩:=h2.get j s hs;obtain⟨ao,c,rfl,h3,h4,h5⟩:=Ci.raw2;have:=h1.cells (g:=g) rfl j _ hu;rw[Zh7,Nat.zero_add] at this;exact⟨ao,c,this,h3,h4,h5⟩
theorem Shr.own{B:Nat}{w:World}{v:Value}{ls:List (List Int)}(h:Shr B w v ls)(h0:ls≠[]):∃g cp,v= .slice (some ⟨g,0,none⟩) ls.length cp/\B<=g/\g<w.heap.size/\ls.length<=cp:=by
 obtain⟨_,vs,h1,h2⟩:=h;have hl:=h2.length;have:0<ls.length:=List.length_pos_iff.2 h0;rcases h1.2 with⟨_,h3⟩|⟨g,cp,cu,rfl,hb,hg,h3,_⟩
 ·omega
 ·exact⟨g,cp,by rw[hl],hb,Z5 hg,by omega⟩
theorem ZhP{o:Oper}{a:Act}{w:World}{K:Act->World->Prop}{Q:Exit->Act->World->Prop}(s x:Operand)(ho:o.op= .call {callee:= .builtin .append,args:= #[s,x],argTypes:= #[57,57]})
 (base:Nat)(v:Value)(S:List (List Int))(hs:a.eval s=v)(A9:Shr base w v S)(b:Nat)(u:Value)(l:List Int)(hx:a.eval x= .slice (some ⟨b,0,none⟩) 1 1)(hc:w.cell? ⟨b,0,none⟩=some u)(hu:OwnI base w u l)
 (hb:S.length<=1000000)(A4:base<=w.heap.size)
 (h:∀g cap w',Shr base w' (.slice (some ⟨g,0,none⟩) (S.length+1) cap) (S++[l])->w.grownBy w' v.ownBlock->(v.ownBlock=some g\/g=w.heap.size)->g<w'.heap.size->K (a.put o.dst (.slice (some ⟨g,0,none⟩) (S.length+1) cap)) w'):o.wp prog a w K Q:=by
 obtain⟨h0,vs,h1,h2⟩:=A9;have hl:=h2.length;refine wp_append_lies w s x 57 ho base 27 Tryz.t27 (.slice none 0 0) 1 24 u57 i27 t27z t27s t27b rfl (by omega) v vs.length vs hs h1 ⟨b,0,none⟩ 1 1 [u] hx rfl ?_ (by intro z hz;rw[List.mem_singleton.1 hz];exact hu.one) (by omega) (by simp only[maxLen];omega) (by omega) A4 _ rfl ?_
 ·intro j z hz
  match j,hz with
  |0,hz=>
   obtain rfl:=Option.some.inj hz;rw[Zh7];exact hc
 ·intro g cap w' k1 k2 k3 k4;rw[hl] at k1;rw[hl];refine h g cap w' ⟨fun e=>by simp at e,vs++[u],?_,Each.append (h2.mono fun u s hu=>World.ownsRow.kept hu k2 (Z4i hu h1 (by decide))) ⟨World.ownsRow.kept hu k2 (Z4i hu h1 (by decide)),trivial⟩⟩ k2 k3 k4;rw[List.length_append,hl];exact k1
theorem RawL.vals{w:World}{base:Option Addr}{ls:List (List Int)}(h:RawL w base ls):∃vs:List Value,vs.length=ls.length/\(∀u∈vs,u.oneCell'=true)/\∀(i:Nat)(l:List Int),ls[i]? =some l->∃b off ad cp,base=some ⟨b,off,none⟩/\vs[i]? =some (.slice ad l.length cp)/\w.cell? ⟨b,off+i,none⟩=some (.slice ad l.length cp)/\l.length<=1000000/\RawI w ad l:=by
 have key:∀i:Fin ls.length,∃u,∃b off ad cp,base=some ⟨b,off,none⟩/\u= .slice ad ls[i].length cp/\w.cell? ⟨b,off+i,none⟩=some u/\ls[i].length<=1000000/\RawI w ad ls[i]:=by
  intro i;obtain⟨b,off,ad,cp,h1,_,h3,h4,h5⟩:=h i ls[i] (List.getElem?_eq_getElem i.2);exact⟨_,b,off,ad,cp,h1,rfl,h3,h4,h5⟩
 obtain⟨f,hf⟩:=Classical.axiomOfChoice key;refine⟨List.ofFn f,by simp,fun u hu=> ?_,fun i l hl=> ?_⟩
 ·obtain⟨i,rfl⟩:=List.mem_ofFn.1 hu;obtain⟨b,off,ad,cp,_,h2,_⟩:=hf i;rw[h2];rfl
 ·obtain⟨hi,rfl⟩:=List.getElem?_eq_some_iff.1 hl;obtain⟨b,off,ad,cp,h1,h2,h3,h4,h5⟩:=hf ⟨i,hi⟩;refine⟨b,off,ad,cp,h1,?_,?_,h4,h5⟩
  ·rw[List.getElem?_ofFn,dif_pos hi,h2];rfl
  ·rw[h3,h2];rfl
theorem ZhS{o:Oper}{a:Act}{w:World}{K:Act->World->Prop}{Q:Exit->Act->World->Prop}(s x:Operand)(ho:o.op= .call {callee:= .builtin .append,args:= #[s,x],argTypes:= #[57,57]})
 (b:Nat)(u:Value)(l:List Int)(ad0:Option Addr)(cp0:Nat)(hu:u= .slice ad0 l.length cp0)(hl:l.length<=1000000)(hr:RawI w ad0 l)(hs:a.eval s= .slice (some ⟨b,0,none⟩) 1 1)(A9:w.ownsRow b 27 1 (.slice (some ⟨b,0,none⟩) 1 1) 1 [u])(hb:b<w.heap.size)
 (ao:Option Addr)(R:List (List Int))(c:Nat)(hx:a.eval x= .slice ao R.length c)(hR:RawL w ao R)(Bq:R=[]->ao=none/\c=0)(Q9:R.length<=1000000)
 (h:∀g cap w',RawL w' (some ⟨g,0,none⟩) (l::R)->Ext w w'->K (a.put o.dst (.slice (some ⟨g,0,none⟩) (R.length+1) cap)) w'):o.wp prog a w K Q:=by
 by_cases h0:R=[]
 ·subst h0;obtain⟨rfl,rfl⟩:=Bq rfl;have hx:a.eval x= .slice none 0 0:=hx;have Ae:=run_append_owned_none (P:=prog) (w:=w) b 57 o.type 27 Tryz.t27 1 u57 i27 _ 1 [u] A9;unfold Oper.wp;simp[execOp,ho,resolve,invoke,builtin,hs,hx,Ae,Result.andThen];refine h b 1 w ?_ (Ext.rfl' w);intro i t ht
  match i,ht with
  |0,ht=>
   obtain rfl:=Option.some.inj ht;have:=A9.cells (g:=b) rfl 0 u rfl;rw[Zh7] at this;exact⟨b,0,ad0,cp0,rfl,hb,by rw[this,hu],hl,hr⟩
 ·obtain⟨vs,N6,P8,Yh⟩:=hR.vals;obtain⟨t0,P9⟩:∃t,R[0]? =some t:=by
   cases R with
   |nil=>exact absurd rfl h0
   |cons t T=>exact⟨t,rfl⟩
  obtain⟨gb,go,_,_,e,_⟩:=Yh 0 t0 P9;subst e;have Cl:0<R.length:=List.length_pos_iff.2 h0;have hc:∀j z,vs[j]? =some z->w.cell? ((⟨gb,go,none⟩:Addr).add j)=some z:=by
   intro j z hz;have hj:=(List.getElem?_eq_some_iff.1 hz).1;obtain⟨t,ht⟩:∃t,R[j]? =some t:=⟨_,List.getElem?_eq_getElem (by omega)⟩;obtain⟨b2,o2,ad,cp,e,k1,k2,_⟩:=Yh j t ht;obtain⟨rfl,rfl⟩:gb=b2/\go=o2:=by simpa using e
   rw[Zh7,k2,<-k1,hz]
  obtain⟨v',w',Ae,r1,r2⟩:=run_append_arg_grows (P:=prog) w 57 o.type 27 Tryz.t27 (.slice none 0 0) 1 24 u57 i27 t27z t27s t27b rfl (by omega) ⟨b,0,none⟩ 1 1 [u] rfl (fun j z hz=>A9.cells (g:=b) rfl j z hz) ⟨gb,go,none⟩ R.length c vs (by omega) hc (by omega) (by simp only[maxLen];omega) (by omega);have e1:1+R.length=R.length+1:=by omega
  rw[e1] at r1;obtain⟨g',cap',rfl,hb',A3⟩:=World.ownsRow.form r1 (by omega);have hE:=Z64 r2;have B8:=fun j z hz=>r1.cells (g:=g') rfl j z hz
  unfold Oper.wp;simp[execOp,ho,resolve,invoke,builtin,hs,hx,Ae,Result.andThen];refine h g' cap' w' ?_ hE;intro i t ht;cases i with
  |zero=>
   obtain rfl:=Option.some.inj ht;have:=B8 0 u rfl;rw[Zh7] at this;exact⟨g',0,ad0,cp0,rfl,A3,by rw[this,hu],hl,hr.ext hE⟩
  |succ i=>
   have ht:R[i]? =some t:=ht;obtain⟨_,_,ad,cp,_,k1,_,k3,k4⟩:=Yh i t ht;have:=B8 (i+1) _ k1;rw[Zh7] at this;exact⟨g',0,ad,cp,rfl,A3,this,k3,k4.ext hE⟩
end Go.Proofs.Tryq
namespace Go.Proofs.Tryq
set_option maxRecDepth 100000
set_option maxHeartbeats 2000000
open Go Go.Nk Go.RowKit
@[go_sem] theorem eq46 (a b c d a' b' c' d':Int) (w:World):(Op.equalIn 10000 46 (.agg #[.int .i64 a,.int .i64 b,.int .i64 c,.int .i64 d]) (.agg #[.int .i64 a',.int .i64 b',.int .i64 c',.int .i64 d'])).run prog w= .ok (a==a'&&b==b'&&c==c'&&d==d') w:=by
  have u3:prog.underlying 3=some (.int .i64):=(underlying_eq 3).trans Tryz.underlying3;have u44:prog.underlying 44=some (.int .i64):=(underlying_eq 44).trans Tryz.underlying44;have u30:prog.underlying 30=some (.int .i64):=(underlying_eq 30).trans Tryz.underlying30;have a3:=Tryz.isAgg3;have z3:=Tryz.sizeOf3;have hS:prog.underlying 46=some (.struct (prog.fieldsOf 46)):=by kernel_rfl
  have hp:prog.stoodInHeld 46=false:=by kernel_rfl
  rw[show(10000:Nat)=9999+1 from rfl,run_equalIn_agg w 9999 46 _ _ hS hp];simp only[Program.fieldsOf,underlying_eq,Tryz.underlying46];go_simp;by_cases h1:a=a'<;>by_cases h2:b=b'<;>by_cases h3:c=c'<;>by_cases h4:d=d'<;>simp[h1,h2,h3,h4]
@[go_sem] theorem guard46 (op:BinOp) (p q:Operand) (xs ys:Array Value) (w:World):(eqGuard op 46 p q (.agg xs) (.agg ys)).run prog w= .ok () w:=run_eqGuard_agg w op 46 p q xs ys (by kernel_rfl)
def apB(x y:Ap):Bool:=x.p==y.p&&x.q==y.q&&(x.k:Int)==(y.k:Int)&&x.s==y.s
def apsB:List Ap->List Ap->Bool
 |[],[]=>true
 |x::l,y::k=>apB x y&&apsB l k
 |_,_=>false
theorem Z67{l k:List Ap}{i:Nat}{x y:Ap}(hx:l[i]? =some x)(hy:k[i]? =some y):apsB (l.drop i) (k.drop i)=(apB x y&&apsB (l.drop (i+1)) (k.drop (i+1))):=by rw[Z0b hx,Z0b hy];rfl
theorem apsB_len:∀{l k:List Ap},l.length≠k.length->apsB l k=false
 |[],[],h=>absurd rfl h
 |[],_::_,_=>rfl
 |_::_,[],_=>rfl
 |x::l,y::k,h=>by rw[apsB,apsB_len (l:=l) (k:=k) (by simpa using h),Bool.and_false]
def RawAp(w:World)(base:Option Addr)(A:List Ap):Prop:=∀(i:Nat)(x:Ap),A[i]? =some x->∃b off,base=some ⟨b,off,none⟩/\b<w.heap.size/\(w.cell? ⟨b,off+i*4,none⟩=some (.int .i64 x.p)/\w.cell? ⟨b,off+i*4+1,none⟩=some (.int .i64 x.q)/\w.cell? ⟨b,off+i*4+2,none⟩=some (.int .i64 x.k)/\w.cell? ⟨b,off+i*4+3,none⟩=some (.int .i64 x.s))
theorem RawAp.ext{w w':World}{base:Option Addr}{A:List Ap}(h:RawAp w base A)(e:Ext w w'):RawAp w' base A:=by
 intro i x hi;obtain⟨b,off,h1,h2,h3,h4,h5,h6⟩:=h i x hi;exact⟨b,off,h1,e.lt h2,e.cellS h3,e.cellS h4,e.cellS h5,e.cellS h6⟩
theorem Z25(a1:Option Addr)(n1 c1:Nat)(l:List Ap)(a2:Option Addr)(n2 c2:Nat)(k:List Ap)(w:World)(h1:l.length=n1)(h2:k.length=n2)(hb:n1<=1000000/\n2<=1000000)(hl:RawAp w a1 l)(hk:RawAp w a2 k):
 Calls prog 29 #[.slice a1 n1 c1,.slice a2 n2 c2] w fun e w'=>e= .returned (.bool (apsB l k))/\Ext w w':=by
 by_cases hn:n1=n2
 ·have H:Hid (apsB l k=apsB (l.drop 0) (k.drop 0)):=rfl;subst hn;obtain⟨n,hn⟩:∃n,n=n1:=⟨_,rfl⟩;subst hn;go_enter func29,ntmps29;go_wp2;go_loopw [5] (fun v wr=>∃i:Nat,i<=n/\v= .int .i64 i/\Ext w wr/\Hid (apsB l k=apsB (l.drop i) (k.drop i))) (fun v _=>n - (intOf v).toNat)
  case atStart=>exact⟨0,Nat.zero_le _,rfl,Ext.rfl' w,H⟩
  case round=>
   obtain⟨i,hi,rfl,hE,hH⟩:=hrel;clear H;by_cases As:i=n
   ·subst As;have hz:apsB l k=true:=(by rw[hH.out,Z1Z h1,Z1Z h2];rfl);go_wp2;go_ret;exact⟨ZP (a:=true) hz.symm,hE⟩
   ·have A3:i<n:=(by omega);obtain⟨x,hx⟩:∃x,l[i]? =some x:=⟨_,List.getElem?_eq_getElem (by omega)⟩;obtain⟨y,hy⟩:∃y,k[i]? =some y:=⟨_,List.getElem?_eq_getElem (by omega)⟩;obtain⟨ba,oa,rfl,Pc,Fj⟩:=(hl.ext hE) i x hx;obtain⟨bb,ob,rfl,Pv,hyb⟩:=(hk.ext hE) i y hy;have eqAp:(!(x.p==y.p&&x.q==y.q&&(x.k:Int)==(y.k:Int)&&x.s==y.s))= !apB x y:=rfl;go_wp2_with fail;have gz0:=Zet Fj.1;have gz1:=Zet Fj.2.1;have gz2:=Zet Fj.2.2.1;have gz3:=Zet Fj.2.2.2;have gz4:=Zet hyb.1;have gz5:=Zet hyb.2.1;have gz6:=Zet hyb.2.2.1;have gz7:=Zet hyb.2.2.2;refine ZeG 9 (by kernel_rfl) ?_;refine ZeB [0,1,2,3,4,5,6,7,8] (by kernel_rfl) (by kernel_rfl) ?_;simp only[ZeD,List.getElem?_cons_succ,List.getElem?_cons_zero,List.cons_append,List.nil_append]
    repeat (go_big_quiet_step (fail))
    refine wpQuiet_nil ?_;refine Zf6 (by kernel_rfl) (fun W hW=> ?_);have B4:=hW;clear gz0 gz1 gz2 gz3 gz4 gz5 gz6 gz7;have Bz:=hE.trans B4;by_cases Ce:apB x y=true
    ·have hb:(!apB x y)=false:=(by simp[Ce]);have Dn:Hid (apsB l k=apsB (l.drop (i+1)) (k.drop (i+1))):=(by show _=_;rw[hH.out,Z67 hx hy,Ce,Bool.true_and]);rw[hb];clear hb;go_wp2;go_roundw
     case rel=>exact⟨i+1,by omega,by push_cast;rfl,Bz,Dn⟩
     case measure=>simp[intOf];omega
    ·have hb:(!apB x y)=true:=(by simpa using Ce);have Dn:apsB l k=false:=(by rw[hH.out,Z67 hx hy,(by simpa using Ce:apB x y=false),Bool.false_and]);rw[hb];clear hb;go_wp2;go_ret;exact⟨ZP (a:=false) Dn.symm,Bz⟩
 ·have hz:apsB l k=false:=apsB_len (by omega);have hnn:¬(n1:Int)=(n2:Int):=by omega
  go_enter func29,ntmps29;go_wp2;go_ret;exact⟨ZP (a:=false) hz.symm,Ext.rfl' w⟩
end Go.Proofs.Tryq
namespace Go.Proofs.Tryq
set_option maxRecDepth 100000
set_option maxHeartbeats 4000000
open Go Go.Nk Go.RowKit
theorem Z7J(w:World)(a:Addr)(v:Value):(w.setCell a v).heap.size=w.heap.size:=(Go.Conc.aside_setCell w a v).size
def exL:List Sf:=[⟨⟨#[97]⟩,400,405,700,700,250,252⟩,⟨⟨#[98]⟩,404,408,701,701,251,251⟩,⟨⟨#[99]⟩,398,402,700,701,249,250⟩,⟨⟨#[100]⟩,409,412,700,700,255,255⟩,⟨⟨#[101]⟩,402,402,702,702,252,254⟩,⟨⟨#[102]⟩,405,406,701,702,253,253⟩,⟨⟨#[103]⟩,450,450,700,700,250,250⟩]
def exC:Array Value:=(exL.flatMap fun x=>(sfC x).toList).toArray
theorem exC_eq:exC= #[.string ⟨#[97]⟩,.int .i64 400,.int .i64 405,.int .i64 700,.int .i64 700,.int .i64 250,.int .i64 252,.string ⟨#[98]⟩,.int .i64 404,.int .i64 408,.int .i64 701,.int .i64 701,.int .i64 251,.int .i64 251,.string ⟨#[99]⟩,.int .i64 398,.int .i64 402,.int .i64 700,.int .i64 701,.int .i64 249,.int .i64 250,.string ⟨#[100]⟩,.int .i64 409,.int .i64 412,.int .i64 700,.int .i64 700,.int .i64 255,.int .i64 255,.string ⟨#[101]⟩,.int .i64 402,.int .i64 402,.int .i64 702,.int .i64 702,.int .i64 252,.int .i64 254,.string ⟨#[102]⟩,.int .i64 405,.int .i64 406,.int .i64 701,.int .i64 702,.int .i64 253,.int .i64 253,.string ⟨#[103]⟩,.int .i64 450,.int .i64 450,.int .i64 700,.int .i64 700,.int .i64 250,.int .i64 250]:=by rfl
theorem Z6U(w:World):Calls prog 84 #[] w fun e w'=>∃B,e= .returned (.agg #[.int .i64 10,.int .i64 2,.int .i64 5,.int .i64 3,.slice (some ⟨B,0,none⟩) 7 7])/\w'.heap[B]? =some (.cells exC 51)/\Ext w w':=by
 have Cp:=Ext.rfl' (w.alloc (.cells #[.int .i64 0,.int .i64 0,.int .i64 0,.int .i64 0,.slice none 0 0] 26));have Cq:(w.alloc (.cells #[.int .i64 0,.int .i64 0,.int .i64 0,.int .i64 0,.slice none 0 0] 26)).heap[w.heap.size]? =some (.cells #[.int .i64 0,.int .i64 0,.int .i64 0,.int .i64 0,.slice none 0 0] 26):=by rw[Z3,if_pos rfl]
 go_enter func84,ntmps84
 go_wp2_with (
  go_at_call 34;refine(Z3P _ _ _).mono ?_;rintro e w2 ⟨rfl,A5⟩
  replace Cp:=Cp.trans A5;clear A5
  (try clear z0 z1 z2 z3 z4 y0 y1 y2 y3 y4 Hg)
  have Hg:=Z5 (Cp.get Cq);have z0:=Z8 (Cp.get Cq) 0;have z1:=Z8 (Cp.get Cq) 1;have z2:=Z8 (Cp.get Cq) 2;have z3:=Z8 (Cp.get Cq) 3;have z4:=Z8 (Cp.get Cq) 4;have y0:=Z0 (Cp.get Cq) 0;have y1:=Z0 (Cp.get Cq) 1;have y2:=Z0 (Cp.get Cq) 2;have y3:=Z0 (Cp.get Cq) 3;have y4:=Z0 (Cp.get Cq) 4;simp only[List.getElem?_toArray,List.getElem?_cons_zero,List.getElem?_cons_succ] at y0 y1 y2 y3 y4)
 have Fx:Ext w w2:=((Ext.rfl' w).alloc _).trans Cp;have Bv:=(Zb (Zb (Zb (Zb (Zb (Cp.get Cq) (i:=0) (.int .i64 10)) (i:=1) (.int .i64 2)) (i:=2) (.int .i64 5)) (i:=3) (.int .i64 3)) (i:=4) (.slice (some ⟨w2.heap.size,0,none⟩) 7 7));have C1:=(((((Fx.setCell ⟨w.heap.size,0,none⟩ (.int .i64 10) (Nat.le_refl _)).setCell ⟨w.heap.size,1,none⟩ (.int .i64 2) (Nat.le_refl _)).setCell ⟨w.heap.size,2,none⟩ (.int .i64 5) (Nat.le_refl _)).setCell ⟨w.heap.size,3,none⟩ (.int .i64 3) (Nat.le_refl _)).setCell ⟨w.heap.size,4,none⟩ (.slice (some ⟨w2.heap.size,0,none⟩) 7 7) (Nat.le_refl _));have G6:w2.heap.size=(((((w2.setCell ⟨w.heap.size,0,none⟩ (.int .i64 10)).setCell ⟨w.heap.size,1,none⟩ (.int .i64 2)).setCell ⟨w.heap.size,2,none⟩ (.int .i64 5)).setCell ⟨w.heap.size,3,none⟩ (.int .i64 3)).setCell ⟨w.heap.size,4,none⟩ (.slice (some ⟨w2.heap.size,0,none⟩) 7 7)).heap.size:=by simp only[Z7J]
 have E4:w2.heap.size≠w.heap.size:=by omega
 generalize World.setCell _ _ _=w9 at Bv C1 G6⊢;have Ed:=((Ext.rfl' w9).alloc (.cells exC 51)).get Bv;have s0:=Z0 Ed 0;have s1:=Z0 Ed 1;have s2:=Z0 Ed 2;have s3:=Z0 Ed 3;have s4:=Z0 Ed 4;simp at s0 s1 s2 s3 s4;rw[<-exC_eq];refine bodyPost_ret (v:= .agg #[.int .i64 10,.int .i64 2,.int .i64 5,.int .i64 3,.slice (some ⟨w2.heap.size,0,none⟩) 7 7]) ((Z07 rfl _ _ _).trans ?_) rfl ⟨w2.heap.size,rfl,by rw[Z3,if_pos G6],C1.alloc _⟩;simp[go_sem,s0,s1,s2,s3,s4]
def exS:List Rs:=[⟨10,30,32,0,0⟩,⟨20,55,60,0,0⟩,⟨30,96,99,1,1⟩]
def rsC(x:Rs):List Value:=[.int .i64 x.a,.int .i64 x.m,.int .i64 x.M,.int .i64 x.wi,.int .i64 x.li]
def exD:Array Value:=(exS.flatMap rsC).toArray
theorem exD_eq:exD= #[.int .i64 10,.int .i64 30,.int .i64 32,.int .i64 0,.int .i64 0,.int .i64 20,.int .i64 55,.int .i64 60,.int .i64 0,.int .i64 0,.int .i64 30,.int .i64 96,.int .i64 99,.int .i64 1,.int .i64 1]:=by rfl
theorem Zar(w:World):Calls prog 85 #[] w fun e w'=>∃B,e= .returned (.agg #[.int .i64 2,.int .i64 4,.int .i64 1,.int .i64 2,.slice (some ⟨B,0,none⟩) 3 3])/\w'.heap[B]? =some (.cells exD 80)/\Ext w w':=by
 have Cp:=Ext.rfl' (w.alloc (.cells #[.int .i64 0,.int .i64 0,.int .i64 0,.int .i64 0,.slice none 0 0] 70));have Cq:(w.alloc (.cells #[.int .i64 0,.int .i64 0,.int .i64 0,.int .i64 0,.slice none 0 0] 70)).heap[w.heap.size]? =some (.cells #[.int .i64 0,.int .i64 0,.int .i64 0,.int .i64 0,.slice none 0 0] 70):=by rw[Z3,if_pos rfl]
 go_enter func85,ntmps85
 go_wp2_with (
  go_at_call 34;refine(Z3P _ _ _).mono ?_;rintro e w2 ⟨rfl,A5⟩
  replace Cp:=Cp.trans A5;clear A5
  (try clear z0 z1 z2 z3 z4 y0 y1 y2 y3 y4 Hg)
  have Hg:=Z5 (Cp.get Cq);have z0:=Z8 (Cp.get Cq) 0;have z1:=Z8 (Cp.get Cq) 1;have z2:=Z8 (Cp.get Cq) 2;have z3:=Z8 (Cp.get Cq) 3;have z4:=Z8 (Cp.get Cq) 4;have y0:=Z0 (Cp.get Cq) 0;have y1:=Z0 (Cp.get Cq) 1;have y2:=Z0 (Cp.get Cq) 2;have y3:=Z0 (Cp.get Cq) 3;have y4:=Z0 (Cp.get Cq) 4;simp only[List.getElem?_toArray,List.getElem?_cons_zero,List.getElem?_cons_succ] at y0 y1 y2 y3 y4)
 have Fx:Ext w w2:=((Ext.rfl' w).alloc _).trans Cp;have Bv:=(Zb (Zb (Zb (Zb (Zb (Cp.get Cq) (i:=0) (.int .i64 2)) (i:=1) (.int .i64 4)) (i:=2) (.int .i64 1)) (i:=3) (.int .i64 2)) (i:=4) (.slice (some ⟨w2.heap.size,0,none⟩) 3 3));have C1:=(((((Fx.setCell ⟨w.heap.size,0,none⟩ (.int .i64 2) (Nat.le_refl _)).setCell ⟨w.heap.size,1,none⟩ (.int .i64 4) (Nat.le_refl _)).setCell ⟨w.heap.size,2,none⟩ (.int .i64 1) (Nat.le_refl _)).setCell ⟨w.heap.size,3,none⟩ (.int .i64 2) (Nat.le_refl _)).setCell ⟨w.heap.size,4,none⟩ (.slice (some ⟨w2.heap.size,0,none⟩) 3 3) (Nat.le_refl _));have G6:w2.heap.size=(((((w2.setCell ⟨w.heap.size,0,none⟩ (.int .i64 2)).setCell ⟨w.heap.size,1,none⟩ (.int .i64 4)).setCell ⟨w.heap.size,2,none⟩ (.int .i64 1)).setCell ⟨w.heap.size,3,none⟩ (.int .i64 2)).setCell ⟨w.heap.size,4,none⟩ (.slice (some ⟨w2.heap.size,0,none⟩) 3 3)).heap.size:=by simp only[Z7J]
 have E4:w2.heap.size≠w.heap.size:=by omega
 generalize World.setCell _ _ _=w9 at Bv C1 G6⊢;have Ed:=((Ext.rfl' w9).alloc (.cells exD 80)).get Bv;have s0:=Z0 Ed 0;have s1:=Z0 Ed 1;have s2:=Z0 Ed 2;have s3:=Z0 Ed 3;have s4:=Z0 Ed 4;simp at s0 s1 s2 s3 s4;rw[<-exD_eq];refine bodyPost_ret (v:= .agg #[.int .i64 2,.int .i64 4,.int .i64 1,.int .i64 2,.slice (some ⟨w2.heap.size,0,none⟩) 3 3]) ((Z07 rfl _ _ _).trans ?_) rfl ⟨w2.heap.size,rfl,by rw[Z3,if_pos G6],C1.alloc _⟩;simp[go_sem,s0,s1,s2,s3,s4]
end Go.Proofs.Tryq
namespace Go.Proofs.Tryq
open Go Go.Nk Go.RowKit
def stkV(B:Nat):Value:= .agg #[.int .i64 10,.int .i64 2,.int .i64 5,.int .i64 3,.slice (some ⟨B,0,none⟩) 7 7]
def ZdA(D n c:Nat):Value:= .agg #[.int .i64 2,.int .i64 4,.int .i64 1,.int .i64 2,.slice (some ⟨D,0,none⟩) n c]
def exS4:List Rs:=exS++[⟨20,70,70,0,0⟩]
theorem v_open0:Zo 10 2 5 3 exL []=0:=by kernel_rfl
theorem v_m1:Z1M 10 2 5 3 exL [0,1,2]=1/\Zo 10 2 5 3 exL [0,1,2]=0:=⟨by kernel_rfl,by kernel_rfl⟩
theorem v_m2:Z1M 10 2 5 3 exL [0,3]=0/\Zo 10 2 5 3 exL [0,3]=0:=⟨by kernel_rfl,by kernel_rfl⟩
theorem v_m3:Z1M 10 2 5 3 exL [0,6]=2/\Zo 10 2 5 3 exL [0,6]=0:=⟨by kernel_rfl,by kernel_rfl⟩
def exA:List Ap:=[⟨0,3,0,0⟩,⟨2,3,0,0⟩,⟨2,3,2,0⟩]
theorem v_ap:apsB (Z0Q 10 2 5 3 exL [0,2,3]) exA=true/\Zo 10 2 5 3 exL [0,2,3]=0/\(Z0Q 10 2 5 3 exL [0,2,3]).length=3:=⟨by kernel_rfl,by kernel_rfl,by kernel_rfl⟩
theorem v_fill:Z66 10 2 5 3 exL=[[0,1,2],[3,4,5]]:=by kernel_rfl
theorem v_left:Z6T 10 2 5 3 exL=[6]:=by rw[Z6T,v_fill];kernel_rfl
theorem v_wot:Z1Y 10 2 5 3 exL 3=1/\Zo 10 2 5 3 exL [3]=0:=⟨by kernel_rfl,by kernel_rfl⟩
theorem v_card:ZC 2 4 1 2 exS=0:=by kernel_rfl
theorem v_card4:ZC 2 4 1 2 exS4=0:=by kernel_rfl
theorem v_wide:Zau 2 4 1 2 exS 2=(93,102)/\Z1e 2 4 1 2 exS 2=0:=⟨by kernel_rfl,by kernel_rfl⟩
theorem v_against:Z1r 2 4 1 2 (exS.map Ze)=0:=by
 have h:=Z6X (Zav v_card) (k:=7) (by decide);rw[Z1r];rw[List.length_map];rw[show((2:Int) ^ exS.length - 1)=((7:Nat):Int) from rfl,h,if_pos (by kernel_rfl)]
theorem ZdB(rs:List Int)(h:firstV (rs++[0,0])=0):firstV (Zy 2 4 1 2 exS rs)=0:=by
 have e:Zy 2 4 1 2 exS rs=0::(rs++[0,0]):=by rw[Zy,v_card,v_against];rfl
 rw[e,firstV,if_pos rfl];exact h
theorem ZaJ(a:Int)(h:Zv a=0):ZA 2 4 1 2 exS a=0:=ZdB _ (by rw[h];rfl)
theorem v_mk1:Zw 2 4 1 2 exS 30=(93,100):=by rw[Zw,if_pos (ZaJ 30 rfl)];kernel_rfl
theorem v_mk2:Zw 2 4 1 2 exS 25=(73,80):=by rw[Zw,if_pos (ZaJ 25 rfl)];kernel_rfl
theorem v_hF(k:Int)(h:Z87 76 k=0):Z8F 2 4 1 2 exS 25 76 k=0:=ZdB _ (by rw[h];rfl)
theorem v_h1:Z6c 2 4 1 2 exS 25 76 4=1:=by rw[Z6c,if_pos (v_hF 4 rfl)];kernel_rfl
theorem v_h2:Z6c 2 4 1 2 exS 25 76 3=0:=by rw[Z6c,if_pos (v_hF 3 rfl)];kernel_rfl
theorem v_best:Z8H 2 4 1 2 exS 25=(76,4):=by rw[Z8H,if_pos (ZaJ 25 rfl)];kernel_rfl
theorem v_widF:Z1O 2 4 1 2 exS 10 30=0:=ZdB _ rfl
theorem v_wid:ZaT 2 4 1 2 exS 10 30=(14,38,48):=by rw[ZaT,if_pos v_widF];kernel_rfl
theorem v_clash:Z7L 2 4 1 2 exS4=[1,3]:=by rw[Zc5 (Zav v_card4)];kernel_rfl
theorem v_trust:Z7M 2 4 1 2 exS4=[0,1,2]:=by rw[Zc6 (Zav v_card4)];kernel_rfl
theorem Z59(l:List Int)(k:Nat)(s:Int)(hl:l.length=k)(hk:k<=100)(h:Z1M 10 2 5 3 exL l=s/\Zo 10 2 5 3 exL l=0)(B:Nat)(ad:Option Addr)(w:World)(hM:Meas w)(hS:RawA w (some ⟨B,0,none⟩) exL)(hI:RawI w ad l):
 Calls prog 23 #[stkV B,.slice ad k k] w fun e w'=>e= .returned (.tuple #[.int .i64 s,.int .i64 0])/\Ext w w':=by
 have h2:=Z5Y 10 2 5 3 (some ⟨B,0,none⟩) 7 7 exL ad k k l w rfl (by decide) hl (Nat.le_refl _) hk hM hS hI;rw[h.1,h.2] at h2;exact h2
theorem Zc9(B:Nat)(ad:Option Addr)(w:World)(hM:Meas w)(hS:RawA w (some ⟨B,0,none⟩) exL)(hI:RawI w ad [0,2,3]):
 Calls prog 27 #[stkV B,.slice ad 3 3] w fun e w'=>∃v,e= .returned (.tuple #[v,.int .i64 0])/\OwnAp w.heap.size w' v (Z0Q 10 2 5 3 exL [0,2,3])/\Ext w w':=by
 have h2:=Z5Z 10 2 5 3 (some ⟨B,0,none⟩) 7 7 exL ad 3 3 [0,2,3] w rfl (by decide) rfl (by decide) (by decide) hM hS hI;rw[v_ap.2.1] at h2;exact h2
theorem ZdC(B:Nat)(w:World)(hM:Meas w)(hS:RawA w (some ⟨B,0,none⟩) exL):
 Calls prog 37 #[stkV B] w fun e w'=>∃v1 v2,e= .returned (.tuple #[v1,v2,.int .i64 0])/\Shr w.heap.size w' v1 [[0,1,2],[3,4,5]]/\OwnI w.heap.size w' v2 [6]/\Ext w w':=by
 have h2:=ZbY 10 2 5 3 (some ⟨B,0,none⟩) 7 7 exL w rfl (by decide) hM hS;rw[v_open0,v_fill,v_left] at h2;exact h2
theorem Z8I(B:Nat)(w:World)(hM:Meas w)(hS:RawA w (some ⟨B,0,none⟩) exL):
 Calls prog 59 #[stkV B,.int .i64 3] w fun e w'=>e= .returned (.tuple #[.int .i64 1,.int .i64 0])/\Ext w w':=by
 have h2:=Z6S 10 2 5 3 (some ⟨B,0,none⟩) 7 7 exL 3 w rfl (by decide) hM hS;rw[v_wot.1,v_wot.2] at h2;exact h2
theorem ZdD(D:Nat)(w:World)(hS:RawS w (some ⟨D,0,none⟩) exS):
 Calls prog 49 #[ZdA D 3 3,.int .i64 2] w fun e w'=>e= .returned (.tuple #[.agg #[.int .i64 93,.int .i64 102],.int .i64 0])/\Ext w w':=by
 have h2:=Z69 2 4 1 2 (some ⟨D,0,none⟩) 3 3 exS 2 w rfl (by decide) hS;rw[v_wide.1,v_wide.2] at h2;exact h2
theorem ZaK(a x y:Int)(h:Zv a=0)(hx:Zw 2 4 1 2 exS a=(x,y))(D:Nat)(w:World)(hS:RawS w (some ⟨D,0,none⟩) exS)(hm:Most w):
 Calls prog 45 #[ZdA D 3 3,.int .i64 a] w fun e w'=>e= .returned (.tuple #[.agg #[.int .i64 x,.int .i64 y],.int .i64 0])/\Ext w w':=by
 have h2:=Z86 2 4 1 2 (some ⟨D,0,none⟩) 3 3 w a exS rfl hS hm;rw[hx,ZaJ a h] at h2;exact h2
theorem ZaL(k s:Int)(h:Z87 76 k=0)(hx:Z6c 2 4 1 2 exS 25 76 k=s)(D:Nat)(w:World)(hS:RawS w (some ⟨D,0,none⟩) exS)(hm:Most w):
 Calls prog 53 #[ZdA D 3 3,.int .i64 25,.int .i64 76,.int .i64 k] w fun e w'=>e= .returned (.tuple #[.int .i64 s,.int .i64 0])/\Ext w w':=by
 have h2:=Zc7 2 4 1 2 (some ⟨D,0,none⟩) 3 3 w 25 76 k exS rfl hS hm;rw[hx,v_hF k h] at h2;exact h2
theorem ZdE(D:Nat)(w:World)(hS:RawS w (some ⟨D,0,none⟩) exS)(hm:Most w):
 Calls prog 51 #[ZdA D 3 3,.int .i64 25] w fun e w'=>e= .returned (.tuple #[.int .i64 76,.int .i64 4,.int .i64 0])/\Ext w w':=by
 have h2:=Zc8 2 4 1 2 (some ⟨D,0,none⟩) 3 3 w 25 exS rfl hS hm;rw[v_best,ZaJ 25 rfl] at h2;exact h2
theorem ZaM(D:Nat)(w:World)(hS:RawS w (some ⟨D,0,none⟩) exS)(hm:Most w):
 Calls prog 52 #[ZdA D 3 3,.int .i64 10,.int .i64 30] w fun e w'=>e= .returned (.tuple #[.int .i64 14,.agg #[.int .i64 38,.int .i64 48],.int .i64 0])/\Ext w w':=by
 have h2:=Z8G 2 4 1 2 (some ⟨D,0,none⟩) 3 3 w 10 30 exS rfl hS hm;rw[v_wid,v_widF] at h2;exact h2
theorem Zca(D c:Nat)(w:World)(hS:RawS w (some ⟨D,0,none⟩) exS4)(hm:Most w)(hd:Deb w):
 Calls prog 66 #[ZdA D 4 c] w fun e w'=>∃v,e= .returned (.tuple #[v,.int .i64 0])/\OwnI w.heap.size w' v [1,3]/\Ext w w':=by
 have h2:=Zas 2 4 1 2 (some ⟨D,0,none⟩) 4 c exS4 w rfl hS hm hd;rw[v_clash,v_card4,if_pos rfl] at h2;exact h2
theorem Zcb(D c:Nat)(w:World)(hS:RawS w (some ⟨D,0,none⟩) exS4)(hm:Most w)(hd:Deb w):
 Calls prog 68 #[ZdA D 4 c] w fun e w'=>∃v,e= .returned (.tuple #[v,.int .i64 0])/\OwnI w.heap.size w' v [0,1,2]/\Ext w w':=by
 have h2:=Zat 2 4 1 2 (some ⟨D,0,none⟩) 4 c exS4 w rfl hS hm hd;rw[v_trust,v_card4,if_pos rfl] at h2;exact h2
theorem Z0V{w:World}{b:Nat}{l:List Int}{C:Array Value}(h:w.heap[b]? =some (.cells C 3))(hC:C.toList=l.map (Value.int .i64)):RawI w (some ⟨b,0,none⟩) l:=by
 intro i y hy;refine⟨b,0,rfl,Z5 h,?_⟩;rw[Z0 h,Nat.zero_add,<-Array.getElem?_toList,hC,List.getElem?_map,hy];rfl
theorem ZdF{w:World}{B:Nat}(h:w.heap[B]? =some (.cells exC 51)):RawA w (some ⟨B,0,none⟩) exL:=by
 intro i x hx;have hi:i<7:=(List.getElem?_eq_some_iff.1 hx).1;refine⟨B,0,rfl,Z5 h,?_,?_⟩
 ·match i,hi with
  |0,_|1,_|2,_|3,_|4,_|5,_|6,_=>
   obtain rfl:=Option.some.inj hx;exact⟨by rw[Z0 h];rfl,by rw[Z0 h];rfl,by rw[Z0 h];rfl,by rw[Z0 h];rfl,by rw[Z0 h];rfl,by rw[Z0 h];rfl,by rw[Z0 h];rfl⟩
 ·match i,hi with
  |0,_|1,_|2,_|3,_|4,_|5,_|6,_=>
   obtain rfl:=Option.some.inj hx;decide
theorem Z6Y{w:World}{B:Nat}{L:List Rs}{C:Array Value}(h:w.heap[B]? =some (.cells C 80))(hC:C.toList.take (L.length*5)=L.flatMap rsC):RawS w (some ⟨B,0,none⟩) L:=by
 have key:∀(L:List Rs)(i j:Nat)(x:Rs),L[i]? =some x->j<5->(L.flatMap rsC)[i*5+j]? =(rsC x)[j]? :=by
  intro L
  induction L with
  |nil=>intro i j x h;simp at h
  |cons y L ih=>
   intro i j x hx hj;rw[List.flatMap_cons];have hl:(rsC y).length=5:=rfl;cases i with
   |zero=>
    simp at hx;subst hx;rw[List.getElem?_append_left (by omega)];simp
   |succ i=>
    rw[List.getElem?_append_right (by omega),hl,show(i+1)*5+j - 5=i*5+j by omega];exact ih i j x (by simpa using hx) hj
 intro i x hx;have hi:i<L.length:=(List.getElem?_eq_some_iff.1 hx).1;have hc:∀j,j<5->w.cell? ⟨B,0+i*5+j,none⟩=(rsC x)[j]? :=by
  intro j hj;rw[Z0 h,Nat.zero_add,<-Array.getElem?_toList,<-key L i j x hx hj,<-hC,List.getElem?_take,if_pos (by omega)]
 exact⟨B,0,rfl,Z5 h,hc 0 (by omega),hc 1 (by omega),hc 2 (by omega),hc 3 (by omega),hc 4 (by omega)⟩
end Go.Proofs.Tryq
