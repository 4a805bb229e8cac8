import Derived.Test.YtedkbdkbbnemlaaGreatDoorNk26
import Derived.ArgAppend
import Derived.Deep.AppendLies
set_option linter.all false
namespace Go.Proofs.Tryq
set_option maxRecDepth 100000
set_option maxHeartbeats 4000000
open Go Go.Nk Go.RowKit
def bestV(x:Int×Int):Int×Int:=(wrap64 (x.2 - wrap64 ((wrap64 (wrap64 (x.2 - x.1)+1)).tdiv 2)),wrap64 ((wrap64 (wrap64 (x.2 - x.1)+1)).tdiv 2))
def Z8H(r0 r1 r2 r3:Int)(S:List Rs)(a:Int):Int×Int:=if ZA r0 r1 r2 r3 S a=0 then bestV (Z4L r0 r1 r2 r3 S a) else(0,0)
theorem Zc8(r0 r1 r2 r3:Int)(base:Option Addr)(n cap:Nat)(w:World)(at':Int)(S:List Rs)(hlen:S.length=n)(hS:RawS w base S)(hmo:Most w):
 Calls prog 51 #[.agg #[.int .i64 r0,.int .i64 r1,.int .i64 r2,.int .i64 r3,.slice base n cap],.int .i64 at'] w fun e w'=>
  e= .returned (.tuple #[.int .i64 (Z8H r0 r1 r2 r3 S at').1,.int .i64 (Z8H r0 r1 r2 r3 S at').2,.int .i64 (ZA r0 r1 r2 r3 S at')])∧Ext w w':=by
 go_enter func51,ntmps51
 go_wp2_with fail
 have hE1:Ext w _:=(Ext.rfl' w).alloc (.cells #[.int .i64 r0,.int .i64 r1,.int .i64 r2,.int .i64 r3,.slice base n cap] 70)
 have hb:(w.alloc (.cells #[.int .i64 r0,.int .i64 r1,.int .i64 r2,.int .i64 r3,.slice base n cap] 70)).heap[w.heap.size]? =some (.cells #[.int .i64 r0,.int .i64 r1,.int .i64 r2,.int .i64 r3,.slice base n cap] 70):=by
  simp only[Z3,Z2];rw[if_pos trivial]
 generalize World.alloc _ _=w1 at hE1 hb⊢
 have hX:=Ext.rfl' w1
 have q0:=Z0 hb 0;have q1:=Z0 hb 1;have q2:=Z0 hb 2;have q3:=Z0 hb 3;have q4:=Z0 hb 4
 simp only[List.getElem?_toArray,List.getElem?_cons_zero,List.getElem?_cons_succ] at q0 q1 q2 q3 q4
 have g0:=Zet q0;have g1:=Zet q1;have g2:=Zet q2;have g3:=Zet q3;have g4:=Zet q4
 refine Zfn 9 8 7 [0,1,2,3,4,5,6] (.cells #[.int .i64 0,.int .i64 0,.int .i64 0,.int .i64 0,.slice none 0 0,.slice none 0 0] 146) (by kernel_rfl) rfl (by kernel_rfl) rfl rfl (fun a W=>by simp[go_sem,execOp,Act.eval]) ?_
 refine Zfj [0,1] (by kernel_rfl) rfl rfl (by kernel_rfl) ?_
 simp only[ZeD,List.getElem?_cons_succ,List.getElem?_cons_zero,List.cons_append,List.nil_append]
 repeat (go_big_quiet_step (fail))
 refine wpQuiet_nil ?_
 refine Zfk 2 rfl (by kernel_rfl) rfl (fun W hW=>Zfo (f:=104) (args:= #[.int .i64 at']) (by simp[go_sem,execOp,Act.eval]) ?_)
 refine(Z9v at' W).mono ?_
 rintro e V0 ⟨p0,rfl,hF,hp0⟩
 refine⟨.func (.func 151) #[] #[.pointer (some ⟨p0,0,none⟩)],rfl,hF,?_⟩
 replace hX:=hX.trans (hW.trans hF)
 clear hF hW
 go_simp
 refine Zfk 3 rfl (by kernel_rfl) rfl (fun W hW=>Zf3 ⟨.slice (some ⟨W.heap.size,0,none⟩) 1 1,W.alloc (.cells #[.func (.func 151) #[] #[.pointer (some ⟨p0,0,none⟩)]] 127),by simp[go_sem,execOp,Act.eval],(Ext.rfl' W).alloc _,?_⟩)
 have hck:=Z30 W #[.func (.func 151) #[] #[.pointer (some ⟨p0,0,none⟩)]] [(151,#[],#[.pointer (some ⟨p0,0,none⟩)])] W.heap.size rfl rfl
 have hF:=(hW.alloc (.cells #[.func (.func 151) #[] #[.pointer (some ⟨p0,0,none⟩)]] 127))
 replace hX:=hX.trans hF
 replace hp0:=hF.cellS hp0
 clear hF hW
 generalize W.heap.size=B2 at hck⊢
 generalize World.alloc W _=V9 at*
 go_simp
 refine Zfk 4 rfl (by kernel_rfl) rfl (fun W hW=>Zfo (f:=103) (args:= #[.agg #[.int .i64 r0,.int .i64 r1,.int .i64 r2,.int .i64 r3,.slice base n cap],.slice (some ⟨B2,0,none⟩) 1 1]) (by simp[go_sem,execOp,Act.eval]) ?_)
 refine(Z4K r0 r1 r2 r3 base n cap W 1 B2 (by omega) [(151,#[],#[.pointer (some ⟨p0,0,none⟩)])] [Zv at'] rfl rfl (fun j x hj=>hW.cellS (hck j x hj)) (by intro x hx args w';simp only[List.mem_cons,List.not_mem_nil,or_false] at hx;rcases hx with rfl<;>simp[go_sem]) (by
       intro j x r hj hr w' hw'
       match j,hj,hr with
       |0,hj,hr=>
        obtain rfl:=Option.some.inj hj
        obtain rfl:=Option.some.inj hr
        exact Z3x p0 at' w' ((hW.trans hw').cellS hp0)) S hlen (hS.ext (hE1.trans (hX.trans hW))) (hmo.ext (hE1.trans (hX.trans hW)))).mono ?_
 rintro e V10 ⟨k0,k1,k2,k3,b4,n4,c4,b5,n5,c5,rfl,hF,hask0⟩
 refine⟨.tuple #[.agg #[.int .i64 k0,.int .i64 k1,.int .i64 k2,.int .i64 k3,.slice b4 n4 c4,.slice b5 n5 c5],.int .i64 (firstV (Zy r0 r1 r2 r3 S [Zv at']))],rfl,hF,?_⟩
 replace hX:=hX.trans (hW.trans hF)
 have hask:Askd r0 r1 r2 r3 base n cap S [Zv at'] k0 k1 k2 k3 b4 n4 c4 b5 n5 c5 V10:=fun h=>by obtain⟨B,p,h0,h1,h2,h3,h4,h5,h6,h7,h8,h9,hC,_⟩:=hask0 h;exact⟨B,p,h0,h1,h2,h3,h4,h5,h6,h7,h8,h9,hC⟩
 clear hF hW hask0 hck hp0
 go_simp
 refine Zfj [5,6,7] (by kernel_rfl) rfl rfl (by kernel_rfl) ?_
 simp only[ZeD,List.getElem?_cons_succ,List.getElem?_cons_zero,List.cons_append,List.nil_append]
 repeat (go_big_quiet_step (fail))
 refine wpQuiet_nil ?_
 refine Zfq (by kernel_rfl) (fun W hW b hA hbl hbo=> ?_)
 have hA0:w1.heap.size≤b:=hA.1.1.1
 replace hX:=hX.trans hW
 replace hask:=hask.ext hW
 clear hW
 go_simp
 refine Zfp 2 (by kernel_rfl) (fun W hW=> ?_)
 simp only[List.drop_succ_cons,List.drop_zero]
 replace hX:=hX.trans hW
 replace hask:=hask.ext hW
 replace hbo:=hW.get hbo
 have hbw:w.heap.size≤b:=by have h1:=hA0;have h2:=hE1.size;omega
 have hEW:=hE1.trans hX
 clear hA hA0 hbl hW hX hE1 hb q0 q1 q2 q3 q4 g0 g1 g2 g3 g4
 have x0:=Z8 hbo 0;have x1:=Z8 hbo 1;have x2:=Z8 hbo 2;have x3:=Z8 hbo 3;have x4:=Z8 hbo 4;have x5:=Z8 hbo 5
 have y0:=Z0 hbo 0;have y1:=Z0 hbo 1;have y2:=Z0 hbo 2;have y3:=Z0 hbo 3;have y4:=Z0 hbo 4;have y5:=Z0 hbo 5
 simp only[List.getElem?_toArray,List.getElem?_cons_zero,List.getElem?_cons_succ] at y0 y1 y2 y3 y4 y5
 have hst:=Z0K hbo (.int .i64 k0) (.int .i64 k1) (.int .i64 k2) (.int .i64 k3) (.slice b4 n4 c4) (.slice b5 n5 c5)
 obtain⟨hX,hEX⟩:=hst
 replace hask:=hask.stored hbo hEX
 replace hEW:=hEX.before hEW hbw
 go_wp2_with fail
 generalize ((((((W.setCell ⟨b,0,none⟩ (.int .i64 k0)).setCell ⟨b,1,none⟩ (.int .i64 k1)).setCell ⟨b,2,none⟩ (.int .i64 k2)).setCell ⟨b,3,none⟩ (.int .i64 k3)).setCell ⟨b,4,none⟩ (.slice b4 n4 c4)).setCell ⟨b,5,none⟩ (.slice b5 n5 c5))=X at hX hask hEW hEX⊢
 clear hEX hbo hbw x0 x1 x2 x3 x4 x5 y0 y1 y2 y3 y4 y5
 refine Zfm ?_
 go_wp2_with fail
 ·have hne:(firstV (Zy r0 r1 r2 r3 S [Zv at']) !=0)=true:=by assumption
  have hm0:¬ZA r0 r1 r2 r3 S at'=0:=by simpa[ZA] using hne
  go_ret3
  exact⟨by rw[Z8H,if_neg hm0];rfl,hEW⟩
 ·have heq:(firstV (Zy r0 r1 r2 r3 S [Zv at']) !=0)=false:=by assumption
  have hm0:firstV (Zy r0 r1 r2 r3 S [Zv at'])=0:=by simpa using heq
  obtain⟨hcf,hrs,hnil,hag⟩:=Z11 hm0
  obtain⟨_,h8,_⟩:=Z0i hcf
  have hfar:=Z0N (hrs (Zv at') (by simp))
  obtain⟨d,rfl⟩:=Int.eq_ofNat_of_zero_le hfar.1
  have hd90:d≤90:=by omega
  obtain⟨B,p',e0,e1,e2,e3,e4,e5,e6,e7,e8,e9,hC⟩:=hask hm0
  subst k0 k1 k2 k3 b4 n4 c4 b5 n5 c5
  have hn8:n≤8:=by omega
  have hev:=fun v w'=>Z08 r0 r1 r2 r3 base n cap v hn8 w'
  have hat:=fun w' hm' hC'=>Z2Y r0 r1 r2 r3 (.slice base n cap) B n d (2 ^ n - 1) p' (cvS r0 r1 r2 r3 (S.map Ze)) hn8 hd90 (Z2Z hn8) w' hm' hC'
  have HV:Hid (Z4L r0 r1 r2 r3 S d=atF (cvS r0 r1 r2 r3 (S.map Ze)) (2 ^ n - 1) d n):=by
   show _=_
   rw[Z4L,Int.toNat_natCast,hlen]
  have hm1:Hid (ZA r0 r1 r2 r3 S d=0):=hm0
  have hmW:=hmo.ext hEW
  clear hask hcf hrs hnil hag heq hm0 hfar
  generalize (2:Int) ^ n - 1=st at hev hat HV
  generalize atF (cvS r0 r1 r2 r3 (S.map Ze)) st d n=V at hat HV
  obtain⟨va,vb⟩:=V
  have x0:=Z0 hX 0;have x1:=Z0 hX 1;have x2:=Z0 hX 2;have x3:=Z0 hX 3;have x4:=Z0 hX 4;have x5:=Z0 hX 5
  simp only[List.getElem?_toArray,List.getElem?_cons_zero,List.getElem?_cons_succ] at x0 x1 x2 x3 x4 x5
  have c0:=Zet x0;have c1:=Zet x1;have c2:=Zet x2;have c3:=Zet x3;have c4:=Zet x4;have c5:=Zet x5
  refine Zfn 6 5 8 [0,1,2,3,4] (.cells #[.int .i64 0,.int .i64 0] 48) (by kernel_rfl) rfl (by kernel_rfl) rfl rfl (fun a W=>by simp[go_sem,execOp,Act.eval]) ?_
  refine Zfj [0,1,3] (by kernel_rfl) rfl rfl (by kernel_rfl) ?_
  simp only[ZeD,List.getElem?_cons_succ,List.getElem?_cons_zero,List.cons_append,List.nil_append]
  repeat (go_big_quiet_step (fail))
  refine wpQuiet_nil ?_
  refine Zfr 2 (f:=106) (args:= #[.agg #[.int .i64 r0,.int .i64 r1,.int .i64 r2,.int .i64 r3,.slice base n cap,.slice (some ⟨B,0,none⟩) n n]]) (v:= .int .i64 st) (by kernel_rfl) rfl rfl rfl (by kernel_rfl) rfl (fun W=>by simp[go_sem,execOp,Act.eval]) (fun W _=>hev _ W) ?_
  go_simp
  refine Zfr 4 (f:=105) (args:= #[.agg #[.int .i64 r0,.int .i64 r1,.int .i64 r2,.int .i64 r3,.slice base n cap,.slice (some ⟨B,0,none⟩) n n],.int .i64 st,.int .i64 d]) (v:= .agg #[.int .i64 va,.int .i64 vb]) (by kernel_rfl) rfl rfl rfl (by kernel_rfl) rfl (fun W=>by simp[go_sem,execOp,Act.eval]) (fun W hW=>hat W (hmW.ext hW) (hC.ext hW)) ?_
  go_simp
  refine Zfq (by kernel_rfl) (fun W hW b hA hbl hbo=> ?_)
  obtain⟨bx,rfl⟩:∃bx,bx=b:=⟨_,rfl⟩
  have hE4:=hW
  clear hW
  go_simp
  refine Zfp 1 (by kernel_rfl) (fun W hW=> ?_)
  simp only[List.drop_succ_cons,List.drop_zero]
  replace hbo:=hW.get hbo
  have hEW2:=(hEW.trans hE4).trans hW
  have hbw:w.heap.size≤bx:=by have h1:=hA;have h2:=hEW.size;omega
  have hxx:=set_pair hbo (.int .i64 va) (.int .i64 vb)
  have hEV:=(hEW2.setCell ⟨bx,0,none⟩ (.int .i64 va) hbw).setCell ⟨bx,1,none⟩ (.int .i64 vb) hbw
  have g:=Zc hbo;have g0:=g.1;have g1:=g.2.1;have g2:=g.2.2.1;have g3:=g.2.2.2
  clear g hEW2 hEW hW hE4 hbw hA hbl hC hmW hev hat hX x0 x1 x2 x3 x4 x5 c0 c1 c2 c3 c4 c5
  go_wp2_with fail
  generalize (W.setCell ⟨bx,0,none⟩ (.int .i64 va)).setCell ⟨bx,1,none⟩ (.int .i64 vb)=Y at hxx hEV⊢
  clear g0 g1 g2 g3 hbo
  refine Zfm ?_
  have g:=Zc hxx;have g0:=g.1;have g1:=g.2.1;have g2:=g.2.2.1;have g3:=g.2.2.2
  go_wp2
  go_ret3
  exact⟨by rw[Z8H,if_pos hm1.out,hm1.out,HV.out];rfl,hEV⟩
end Go.Proofs.Tryq
namespace Go.Proofs.Tryq
open Go Go.Nk Go.RowKit
set_option linter.all false
structure Fine(r0 r1 r2 r3:Int)(S:List Rs):Prop where
 cf:ZC r0 r1 r2 r3 S=0
 ne:S≠[]
 ft:Z20 r0 r1 r2 r3 S (upL S.length)=true
section
variable {r0 r1 r2 r3:Int} {S:List Rs} (hg:Fine r0 r1 r2 r3 S)
include hg
end
set_option linter.all false
section
variable {r0 r1 r2 r3:Int} {S:List Rs} (hg:Fine r0 r1 r2 r3 S)
include hg
end
end Go.Proofs.Tryq
namespace Go.Nk
open Go Go.Region
open Go.Proofs.Tryq (Ext Z3 Z2)
variable {P:Program} {ops:Array Oper} {Q:Exit→Act→World→Prop}
variable {n:Nat} {Dl:List (Option Tmp)} {S:List (Option Value)} {L0:Tmp→Value} {M:(Nat→Bool)→(Tmp→Value)→World→Prop} {ℓ:Nat→Bool} {a:Act} {w w':World} {i:Nat} {o:Oper}
end Go.Nk
namespace Go.Proofs.Tryq
set_option maxRecDepth 100000
open Go Go.Nk Go.RowKit
theorem Z4r(n lo hi:Int)(w:World):Calls prog 93 #[.int .i64 n,.int .i64 lo,.int .i64 hi] w fun e w'=>e= .returned (.bool (decide (lo≤n∧n≤hi)))∧w'=w:=by
 by_cases h1:lo≤n
 ·by_cases h2:n≤hi
  ·go_enter func93,ntmps93
   go_wp2
   go_ret
   exact⟨ZP (a:=true) (by rw[Bool.eq_iff_iff];simp<;>omega),rfl⟩
  ·go_enter func93,ntmps93
   go_wp2
   go_ret
   exact⟨ZP (a:=false) (by rw[Bool.eq_iff_iff];simp<;>omega),rfl⟩
 ·go_enter func93,ntmps93
  go_wp2
  go_ret
  exact⟨ZP (a:=false) (by rw[Bool.eq_iff_iff];simp<;>omega),rfl⟩
def inR(n lo hi:Int):Bool:=decide (lo≤n∧n≤hi)
theorem Zgc(n lo hi:Int)(w:World):Calls prog 93 #[.int .i64 n,.int .i64 lo,.int .i64 hi] w fun e w'=>e= .returned (.bool (inR n lo hi))∧w'=w:=Z4r n lo hi w
theorem Z2e(a b lo hi:Int)(w:World):Calls prog 95 #[.agg #[.int .i64 a,.int .i64 b],.int .i64 lo,.int .i64 hi] w fun e w'=>e= .returned (.bool (decide (lo≤a∧a≤b∧b≤hi)))∧Ext w w':=by
 have hr:=fun n w=>Zgc n lo hi w
 have H:Hid (decide (lo≤a∧a≤b∧b≤hi)=(inR a lo hi&&(inR b lo hi&&decide (a≤b)))):=by
  show _=_
  simp only[inR]
  rw[Bool.eq_iff_iff]
  simp
  omega
 cases h1:inR a lo hi with
 |false=>
  have hr1:=hr a;simp only[h1] at hr1
  rw[h1] at H
  go_enter func95,ntmps95
  go_wp2_with (go_at_call 93;(with_reducible refine(hr1 _).mono ?_);rintro e w2 ⟨rfl,rfl⟩)
  go_ret
  exact⟨ZP (a:=false) (by rw[H.out];simp),(Ext.rfl' w).alloc _⟩
 |true=>
  have hr1:=hr a;simp only[h1] at hr1
  rw[h1] at H
  cases h2:inR b lo hi with
  |false=>
   have hr2:=hr b;simp only[h2] at hr2
   rw[h2] at H
   go_enter func95,ntmps95
   go_wp2_with (first|(go_at_call 93;(with_reducible refine(hr1 _).mono ?_);rintro e w2 ⟨rfl,rfl⟩)|(go_at_call 93;(with_reducible refine(hr2 _).mono ?_);rintro e w2 ⟨rfl,rfl⟩))
   go_ret
   exact⟨ZP (a:=false) (by rw[H.out];simp),(Ext.rfl' w).alloc _⟩
  |true=>
   have hr2:=hr b;simp only[h2] at hr2
   rw[h2] at H
   go_enter func95,ntmps95
   go_wp2_with (first|(go_at_call 93;(with_reducible refine(hr1 _).mono ?_);rintro e w2 ⟨rfl,rfl⟩)|(go_at_call 93;(with_reducible refine(hr2 _).mono ?_);rintro e w2 ⟨rfl,rfl⟩))
   go_ret
   exact⟨ZP (a:=decide (a≤b)) (by rw[H.out];simp),(Ext.rfl' w).alloc _⟩
end Go.Proofs.Tryq
namespace Go.Proofs.Tryq
set_option maxRecDepth 100000
set_option maxHeartbeats 4000000
open Go Go.Nk Go.RowKit
theorem Zg5(a b c d:Int)(w:World):Calls prog 46 #[.agg #[.int .i64 a,.int .i64 b],.agg #[.int .i64 c,.int .i64 d]] w fun e w'=>e= .returned (.agg #[.int .i64 (max a c),.int .i64 (min b d)])∧Ext w w':=by
 go_enter func46,ntmps46
 go_wp2
 all_goals
  refine bodyPost_ret (v:= .agg #[.int .i64 (max a c),.int .i64 (min b d)]) ((Z07 rfl _ _ _).trans ?_) rfl ⟨rfl,(((Ext.rfl' w).alloc _).alloc _).alloc _⟩
  simp[go_sem]
  omega
theorem ZfZ(r0 r1 r2 r3:Int)(s:Rs)(w:World):Calls prog 120 #[.agg #[.int .i64 r0,.int .i64 r1,.int .i64 r2,.int .i64 r3],.agg #[.int .i64 s.a,.int .i64 s.m,.int .i64 s.M,.int .i64 s.wi,.int .i64 s.li]] w fun e w'=>e= .returned (.agg #[.int .i64 (Z68 r2 r3 s).1,.int .i64 (Z68 r2 r3 s).2])∧Ext w w':=by
 go_enter func120,ntmps120
 go_wp2
 refine bodyPost_ret (v:= .agg #[.int .i64 (Z68 r2 r3 s).1,.int .i64 (Z68 r2 r3 s).2]) ((Z07 rfl _ _ _).trans ?_) rfl ⟨rfl,(((Ext.rfl' w).alloc _).alloc _).alloc _⟩
 simp[go_sem,Z68,lo,hi]
theorem ZfX(r0 r1 r2 r3 d:Int)(s:Rs)(w:World):Calls prog 147 #[.agg #[.int .i64 r0,.int .i64 r1,.int .i64 r2,.int .i64 r3],.agg #[.int .i64 s.a,.int .i64 s.m,.int .i64 s.M,.int .i64 s.wi,.int .i64 s.li],.int .i64 d] w fun e w'=>e= .returned (.agg #[.int .i64 (Zdx r0 r1 r2 r3 s d).1,.int .i64 (Zdx r0 r1 r2 r3 s d).2])∧Ext w w':=by
 have hw:=fun W=>ZfZ r0 r1 r2 r3 s W
 have hE0:=(((Ext.rfl' w).alloc (.cells #[.int .i64 r0,.int .i64 r1,.int .i64 r2,.int .i64 r3] 67)).alloc (.cells #[.int .i64 s.a,.int .i64 s.m,.int .i64 s.M,.int .i64 s.wi,.int .i64 s.li] 80)).alloc (.cells #[.int .i64 0,.int .i64 0] 48)
 have b0:(((w.alloc (.cells #[.int .i64 r0,.int .i64 r1,.int .i64 r2,.int .i64 r3] 67)).alloc (.cells #[.int .i64 s.a,.int .i64 s.m,.int .i64 s.M,.int .i64 s.wi,.int .i64 s.li] 80)).alloc (.cells #[.int .i64 0,.int .i64 0] 48)).heap[w.heap.size]? =some (.cells #[.int .i64 r0,.int .i64 r1,.int .i64 r2,.int .i64 r3] 67):=by
  simp only[Z3,Z2];rw[if_neg (by omega),if_neg (by omega),if_pos trivial]
 have b1:(((w.alloc (.cells #[.int .i64 r0,.int .i64 r1,.int .i64 r2,.int .i64 r3] 67)).alloc (.cells #[.int .i64 s.a,.int .i64 s.m,.int .i64 s.M,.int .i64 s.wi,.int .i64 s.li] 80)).alloc (.cells #[.int .i64 0,.int .i64 0] 48)).heap[w.heap.size+1]? =some (.cells #[.int .i64 s.a,.int .i64 s.m,.int .i64 s.M,.int .i64 s.wi,.int .i64 s.li] 80):=by
  simp only[Z3,Z2];rw[if_neg (by omega),if_pos trivial]
 have b2:(((w.alloc (.cells #[.int .i64 r0,.int .i64 r1,.int .i64 r2,.int .i64 r3] 67)).alloc (.cells #[.int .i64 s.a,.int .i64 s.m,.int .i64 s.M,.int .i64 s.wi,.int .i64 s.li] 80)).alloc (.cells #[.int .i64 0,.int .i64 0] 48)).heap[w.heap.size+1+1]? =some (.cells #[.int .i64 0,.int .i64 0] 48):=by
  simp only[Z3,Z2];rw[if_pos trivial]
 have hz:Hid (Zdx r0 r1 r2 r3 s d=if s.a≤d then(wrap64 ((Z68 r2 r3 s).1+wrap64 (r0*wrap64 (d - s.a))),wrap64 ((Z68 r2 r3 s).2+wrap64 (r1*wrap64 (d - s.a))))
  else(wrap64 ((Z68 r2 r3 s).1 - wrap64 (r1*wrap64 (s.a - d))),wrap64 ((Z68 r2 r3 s).2 - wrap64 (r0*wrap64 (s.a - d))))):=rfl
 generalize Z68 r2 r3 s=x at hw hz
 obtain⟨xa,xb⟩:=x
 generalize Zdx r0 r1 r2 r3 s d=F at hz⊢
 go_enter func147,ntmps147
 go_wp2_with (first
  |(go_at_call 120;refine(hw _).mono ?_;rintro e w2 ⟨rfl,hE2⟩
    have hE3:=hE0.trans hE2
    replace b0:=hE2.get b0;replace b1:=hE2.get b1;replace b2:=hE2.get b2
    have l0:=Z5 b0;have l1:=Z5 b1;have l2:=Z5 b2
    have p0:=Z0 b0 0;have p1:=Z0 b0 1;have p2:=Z0 b0 2;have p3:=Z0 b0 3
    have q0:=Z0 b1 0
    have z:=Zc b2;have z0:=z.1;have z1:=z.2.1;have z2:=z.2.2.1;have z3:=z.2.2.2
    simp only[List.getElem?_toArray,List.getElem?_cons_zero,List.getElem?_cons_succ] at p0 p1 p2 p3 q0
    clear z hE0 hE2 hw))
 all_goals
  have hF:=hz.out
  first|rw[if_pos (by omega)] at hF|rw[if_neg (by omega)] at hF
  subst hF
  have h2:w.heap.size≤w.heap.size+1+1:=by omega
  refine bodyPost_ret (v:= .agg #[.int .i64 _,.int .i64 _]) ((Z07 rfl _ _ _).trans ?_) rfl ⟨rfl,((hE3.setCell _ _ h2).setCell _ _ h2).alloc _⟩
  have hq:=fun u v o=>((Ext.rfl' ((w2.setCell ⟨w.heap.size+1+1,0,none⟩ u).setCell ⟨w.heap.size+1+1,1,none⟩ v)).alloc o).cellS (Zc (set_pair b2 u v)).1
  have hq2:=fun u v o=>((Ext.rfl' ((w2.setCell ⟨w.heap.size+1+1,0,none⟩ u).setCell ⟨w.heap.size+1+1,1,none⟩ v)).alloc o).cellS (Zc (set_pair b2 u v)).2.1
  simp[go_sem,hq,hq2]
theorem Zg9(n:Nat)(w:World)(hn:n≤1000):Calls prog 44 #[.int .i64 n] w fun e w'=>∃x,e= .returned x∧OwnI w.heap.size w' x (upL n)∧Ext w w':=by
 obtain⟨N,hN⟩:∃N,N=w.heap.size:=⟨_,rfl⟩
 rw[←hN]
 go_enter func44,ntmps44
 go_wp2
 go_loopw [3,4] (fun v3 v4 wr=>∃i:Nat,i≤n∧v4= .int .i64 i∧OwnI N wr v3 (upL i)∧Ext w wr) (fun _ v4 _=>n - (intOf v4).toNat)
 case atStart=>exact⟨0,Nat.zero_le _,rfl,World.ownsRow_nil _ _ _ _,Ext.rfl' w⟩
 case round=>
  rename_i v3 _
  obtain⟨i,hi,rfl,hown,hE⟩:=hrel
  by_cases h0:i=n
  ·subst h0
   go_wp2
   go_ret
   exact⟨_,rfl,hown,hE⟩
  ·have hlt:i<n:=by omega
   have hlt2:(i:Int)<(n:Int):=by omega
   have hs:=hE.size
   have H3:Hid (upL (i+1)=upL i++[(i:Int)]):=by show _=_;simp[upL,List.range_succ]
   obtain⟨l,hl⟩:∃l,l=upL i:=⟨_,rfl⟩
   have hll:l.length=i:=by rw[hl];simp[upL]
   rw[←hl] at hown H3
   clear hl
   go_wp2_with (
    at_builtin
    refine wpList_append_own _ rfl _ _ _ rfl N 3 Tryz.t3 (.int .i64 0) 1 8 u27 i3 t3z t3s t3b rfl (by omega) _ _ _ rfl (hown.alloc _) ⟨wr.heap.size,0,none⟩ 1 1 [.int .i64 i] rfl rfl (Z1N _ _ _) (by intro u hu;simp at hu;subst hu;rfl) (by(try simp[maxLen]);omega) (by(try simp);omega) (by(try simp only[Z2]);omega) ?_
    intro v' w3 hown3 hgrow3 _
    have hE3:Ext w w3:=(hE.alloc _).grown hgrow3 (fun k hk=>by have:=(hown.lt k hk).1;omega))
   go_roundw
   case rel=>exact⟨i+1,by omega,by push_cast;rfl,by rw[H3.out];simpa[OwnI] using hown3,hE3⟩
   case measure=>simp[intOf];omega
theorem Zg0{r0 r1 r2 r3:Int}{S:List Rs}{d:Int}{t:List Int}{j:Int}(h:t≠[]):Z57 r0 r1 r2 r3 S d (t++[j])=ZaA (Z57 r0 r1 r2 r3 S d t) (Z6b r0 r1 r2 r3 S d j):=by
 cases t with
 |nil=>exact absurd rfl h
 |cons i t=>rw[List.cons_append,Z57,Z57,List.foldl_append];rfl
theorem Zg1(r0 r1 r2 r3:Int)(base:Option Addr)(n cap:Nat)(S:List Rs)(bl:Option Addr)(k cl:Nat)(l:List Int)(d:Int)(w:World)(hlen:S.length=n)(hn:n≤20)(hk:l.length=k)(hk20:k≤20)(hk0:0<k)(hin:∀j∈l,0≤j∧j<(n:Int))(hS:RawS w base S)(hl:RawI w bl l):
 Calls prog 102 #[.agg #[.int .i64 r0,.int .i64 r1,.int .i64 r2,.int .i64 r3,.slice base n cap],.slice bl k cl,.int .i64 d] w fun e w'=>e= .returned (.agg #[.int .i64 (Z57 r0 r1 r2 r3 S d l).1,.int .i64 (Z57 r0 r1 r2 r3 S d l).2])∧Ext w w':=by
 obtain⟨j,hj⟩:∃j,l[0]? =some j:=⟨_,List.getElem?_eq_getElem (by omega)⟩
 have hjn:=hin j (List.mem_of_getElem? hj)
 obtain⟨J,rfl⟩:=Int.eq_ofNat_of_zero_le hjn.1
 have hJn:J<n:=by omega
 have hJ2:(J:Int)<(n:Int):=by omega
 obtain⟨s,hs⟩:∃s,S[J]? =some s:=⟨_,List.getElem?_eq_getElem (by omega)⟩
 obtain⟨B0,O0,rfl,hB0,hc0⟩:=hl 0 _ hj
 obtain⟨BS,OS,rfl,hBS,sh⟩:=hS J s hs
 have HF:Hid (Z57 r0 r1 r2 r3 S d (l.take 1)=Zdx r0 r1 r2 r3 s d):=by
  show _=_
  cases l with
  |nil=>simp at hj
  |cons x t=>
   simp at hj
   subst hj
   simp[Z57,Z6b,hs]
 have hfr:=fun W=>ZfX r0 r1 r2 r3 d s W
 obtain⟨⟨fa,fb⟩,HF0⟩:∃v,Zdx r0 r1 r2 r3 s d=v:=⟨_,rfl⟩
 rw[HF0] at hfr
 have H1:Hid (Z57 r0 r1 r2 r3 S d (l.take 1)=(fa,fb)):=HF.out.trans HF0
 replace hlen:Hid (S.length=n):=hlen
 replace hk:Hid (l.length=k):=hk
 replace hin:Hid (∀j∈l,0≤j∧j<(n:Int)):=hin
 have hS2:Hid (RawS w (some ⟨BS,OS,none⟩) S):=hS
 have hl2:Hid (RawI w (some ⟨B0,O0,none⟩) l):=hl
 clear hj hs HF0 hS hl hjn
 have hE1:=((Ext.rfl' w).alloc (.cells #[.int .i64 r0,.int .i64 r1,.int .i64 r2,.int .i64 r3,.slice (some ⟨BS,OS,none⟩) n cap] 70)).alloc (.cells #[.int .i64 0,.int .i64 0] 48)
 have hb:((w.alloc (.cells #[.int .i64 r0,.int .i64 r1,.int .i64 r2,.int .i64 r3,.slice (some ⟨BS,OS,none⟩) n cap] 70)).alloc (.cells #[.int .i64 0,.int .i64 0] 48)).heap[w.heap.size]? =some (.cells #[.int .i64 r0,.int .i64 r1,.int .i64 r2,.int .i64 r3,.slice (some ⟨BS,OS,none⟩) n cap] 70):=by
  simp only[Z3,Z2];rw[if_neg (by omega),if_pos trivial]
 have hz:((w.alloc (.cells #[.int .i64 r0,.int .i64 r1,.int .i64 r2,.int .i64 r3,.slice (some ⟨BS,OS,none⟩) n cap] 70)).alloc (.cells #[.int .i64 0,.int .i64 0] 48)).heap[w.heap.size+1]? =some (.cells #[.int .i64 0,.int .i64 0] 48):=by
  simp only[Z3,Z2];rw[if_pos trivial]
 go_enter func102,ntmps102
 go_wp2_with fail
 generalize World.alloc _ _=w1 at hE1 hb hz⊢
 replace hc0:w1.cell? ⟨B0,O0+0,none⟩=some (.int .i64 J):=hE1.cellS hc0
 rw[Nat.add_zero] at hc0
 have sh:ShotAt w1 BS (OS+J*5) s.a s.m s.M s.wi s.li:=⟨hE1.cellS sh.c0,hE1.cellS sh.c1,hE1.cellS sh.c2,hE1.cellS sh.c3,hE1.cellS sh.c4⟩
 have q0:=Z0 hb 0;have q1:=Z0 hb 1;have q2:=Z0 hb 2;have q3:=Z0 hb 3;have q4:=Z0 hb 4
 simp only[List.getElem?_toArray,List.getElem?_cons_zero,List.getElem?_cons_succ] at q0 q1 q2 q3 q4
 have g0:=Zet q0;have g1:=Zet q1;have g2:=Zet q2;have g3:=Zet q3;have g4:=Zet q4
 have k0:=Zet sh.c0;have k1:=Zet sh.c1;have k2:=Zet sh.c2;have k3:=Zet sh.c3;have k4:=Zet sh.c4
 have kc:=Zet hc0
 refine Zfn 12 11 7 [0,1,2,3,4,5,6,7,8,9,10] (.cells #[.int .i64 0,.int .i64 0] 48) (by kernel_rfl) rfl (by kernel_rfl) rfl rfl (fun a W=>by simp[go_sem,execOp,Act.eval]) ?_
 refine Zfj [0,1,2,3,4,5,6,7,8,9] (by kernel_rfl) rfl rfl (by kernel_rfl) ?_
 simp only[ZeD,List.getElem?_cons_succ,List.getElem?_cons_zero,List.cons_append,List.nil_append]
 repeat (go_big_quiet_step (fail))
 refine wpQuiet_nil ?_
 refine Zfr 10 (f:=147) (args:= #[.agg #[.int .i64 r0,.int .i64 r1,.int .i64 r2,.int .i64 r3],.agg #[.int .i64 s.a,.int .i64 s.m,.int .i64 s.M,.int .i64 s.wi,.int .i64 s.li],.int .i64 d]) (v:= .agg #[.int .i64 fa,.int .i64 fb]) (by kernel_rfl) rfl rfl rfl (by kernel_rfl) rfl (fun W=>by simp[go_sem,execOp,Act.eval]) (fun W _=>hfr W) ?_
 go_simp
 refine Zfq (by kernel_rfl) (fun W hW b hA hbl hbo=> ?_)
 obtain⟨bx,rfl⟩:∃bx,bx=b:=⟨_,rfl⟩
 have hE4:=hW
 clear hW
 go_simp
 refine Zfp 1 (by kernel_rfl) (fun W hW=> ?_)
 simp only[List.drop_succ_cons,List.drop_zero]
 replace hbo:=hW.get hbo
 have hEW:=(hE1.trans hE4).trans hW
 have hbw:w.heap.size≤bx:=by have h1:=hA;have h2:=hE1.size;omega
 have hl0:=Z5 hb;have hl1:=Z5 hz
 have hP:=set_pair hbo (.int .i64 fa) (.int .i64 fb)
 have hC:=Zfl (i:=0) (j:=1) (u:= .int .i64 fa) (v:= .int .i64 fb) (show w.heap.size≠bx by omega) (hW.get (hE4.get hb))
 have hZ:=Zfl (i:=0) (j:=1) (u:= .int .i64 fa) (v:= .int .i64 fb) (show w.heap.size+1≠bx by omega) (hW.get (hE4.get hz))
 have hEY:=(hEW.setCell ⟨bx,0,none⟩ (.int .i64 fa) hbw).setCell ⟨bx,1,none⟩ (.int .i64 fb) hbw
 have hb01:w.heap.size+1≠bx:=by omega
 have hb02:w.heap.size≠bx:=by omega
 have g:=Zc hbo;have g0:=g.1;have g1:=g.2.1;have g2:=g.2.2.1;have g3:=g.2.2.2
 clear g hEW hE1 hE4 hW hA hbl hb hz hl0 hl1 q0 q1 q2 q3 q4 k0 k1 k2 k3 k4 kc sh hc0
 go_wp2_with fail
 generalize (W.setCell ⟨bx,0,none⟩ (.int .i64 fa)).setCell ⟨bx,1,none⟩ (.int .i64 fb)=Y at*
 clear g0 g1 g2 g3 hbo
 refine Zfm ?_
 go_wp2_with fail
 go_loopw [8] (fun v wr=>∃i:Nat,1≤i∧i≤k∧v= .int .i64 i∧Ext w wr∧wr.heap[w.heap.size]? =some (.cells #[.int .i64 r0,.int .i64 r1,.int .i64 r2,.int .i64 r3,.slice (some ⟨BS,OS,none⟩) n cap] 70)∧wr.heap[w.heap.size+1]? =some (.cells #[.int .i64 0,.int .i64 0] 48)∧∃pa pb,wr.heap[bx]? =some (.cells #[.int .i64 pa,.int .i64 pb] 48)∧Hid (Z57 r0 r1 r2 r3 S d (l.take i)=(pa,pb))) (fun v _=>k - (intOf v).toNat)
 case atStart=>exact⟨1,Nat.le_refl _,by omega,rfl,hEY,hC,hZ,fa,fb,hP,H1⟩
 case round=>
  obtain⟨i,hi1,hi,rfl,hE,hb,hz,pa,pb,hp,HP⟩:=hrel
  clear hEY hC hZ hP H1 HF
  have hb01:w.heap.size+1≠bx:=hb01
  by_cases hik:i=k
  ·subst hik
   have HR:Hid (Z57 r0 r1 r2 r3 S d l=(pa,pb)):=by show _=_;rw[←HP.out,List.take_of_length_le (by have:=hk.out;omega)]
   have y:=Zc hp;have y0:=y.1;have y1:=y.2.1
   have z:=Zc hz;have z0:=z.1;have z1:=z.2.1;have z2:=z.2.2.1;have z3:=z.2.2.2
   clear y z HP hin hS2 hl2
   go_wp2
   have h2:w.heap.size≤w.heap.size+1:=by omega
   refine bodyPost_ret (v:= .agg #[.int .i64 (Z57 r0 r1 r2 r3 S d l).1,.int .i64 (Z57 r0 r1 r2 r3 S d l).2]) ((Z07 rfl _ _ _).trans ?_) rfl ⟨rfl,(hE.setCell _ _ h2).setCell _ _ h2⟩
   have hq:=Zc (set_pair hz (.int .i64 pa) (.int .i64 pb))
   rw[HR.out]
   simp[go_sem,hq.1,hq.2.1]
  ·have hlt:i<k:=by omega
   have hlt2:(i:Int)<(k:Int):=by omega
   obtain⟨j,hj⟩:∃j,l[i]? =some j:=⟨_,List.getElem?_eq_getElem (by have:=hk.out;omega)⟩
   have hjn:=hin.out j (List.mem_of_getElem? hj)
   obtain⟨J,rfl⟩:=Int.eq_ofNat_of_zero_le hjn.1
   have hJn:J<n:=by omega
   have hJ2:(J:Int)<(n:Int):=by omega
   obtain⟨s,hs⟩:∃s,S[J]? =some s:=⟨_,List.getElem?_eq_getElem (by have:=hlen.out;omega)⟩
   have HN:Hid (Z57 r0 r1 r2 r3 S d (l.take (i+1))=ZaA (pa,pb) (Zdx r0 r1 r2 r3 s d)):=by
    show _=_
    rw[Z0G hj,Zg0 (by rw[ne_eq,List.take_eq_nil_iff];rintro(h|h);omega;subst h;simp at hj),HP.out,Z6b,Int.toNat_natCast,hs]
   obtain⟨bb,ob,hbl1,hb1,hcj⟩:=hl2.out i _ hj
   obtain⟨bc,oc,hbl2,hb2,sh⟩:=hS2.out J s hs
   obtain⟨rfl,rfl⟩:B0=bb∧O0=ob:=by simpa using hbl1
   obtain⟨rfl,rfl⟩:BS=bc∧OS=oc:=by simpa using hbl2
   have hfr:=fun W=>ZfX r0 r1 r2 r3 d s W
   obtain⟨⟨fa,fb⟩,HF0⟩:∃v,Zdx r0 r1 r2 r3 s d=v:=⟨_,rfl⟩
   rw[HF0] at HN hfr
   clear HF0 hj hs HP
   have hc:=hE.cellS hcj
   have s0:=hE.cellS sh.c0;have s1:=hE.cellS sh.c1;have s2:=hE.cellS sh.c2;have s3:=hE.cellS sh.c3;have s4:=hE.cellS sh.c4
   have q0:=Z0 hb 0;have q1:=Z0 hb 1;have q2:=Z0 hb 2;have q3:=Z0 hb 3;have q4:=Z0 hb 4
   simp only[List.getElem?_toArray,List.getElem?_cons_zero,List.getElem?_cons_succ] at q0 q1 q2 q3 q4
   have y:=Zc hp;have y0:=y.1;have y1:=y.2.1
   have g0:=Zet q0;have g1:=Zet q1;have g2:=Zet q2;have g3:=Zet q3;have g4:=Zet q4
   have kc:=Zet hc;have k0:=Zet s0;have k1:=Zet s1;have k2:=Zet s2;have k3:=Zet s3;have k4:=Zet s4;have ky0:=Zet y0;have ky1:=Zet y1
   clear y sh hcj
   go_wp2_with fail
   refine ZeG 14 (by kernel_rfl) ?_
   refine ZeB [0,1,2,3,4,5,6,7,8,9,10,11] (by kernel_rfl) (by kernel_rfl) ?_
   simp only[ZeD,List.getElem?_cons_succ,List.getElem?_cons_zero,List.cons_append,List.nil_append]
   repeat (go_big_quiet_step (fail))
   refine wpQuiet_nil ?_
   refine ZeX 12 (f:=147) (args:= #[.agg #[.int .i64 r0,.int .i64 r1,.int .i64 r2,.int .i64 r3],.agg #[.int .i64 s.a,.int .i64 s.m,.int .i64 s.M,.int .i64 s.wi,.int .i64 s.li],.int .i64 d]) (v:= .agg #[.int .i64 fa,.int .i64 fb]) (by kernel_rfl) rfl (by kernel_rfl) rfl (fun W=>by simp[go_sem,execOp,Act.eval]) (fun W _=>hfr W) ?_
   go_simp
   refine ZeX 13 (f:=46) (args:= #[.agg #[.int .i64 pa,.int .i64 pb],.agg #[.int .i64 fa,.int .i64 fb]]) (v:= .agg #[.int .i64 (max pa fa),.int .i64 (min pb fb)]) (by kernel_rfl) rfl (by kernel_rfl) rfl (fun W=>by simp[go_sem,execOp,Act.eval]) (fun W _=>Zg5 pa pb fa fb W) ?_
   go_simp
   refine Zfp 1 (by kernel_rfl) (fun W hW=> ?_)
   simp only[List.drop_succ_cons,List.drop_zero]
   have hE3:=hE.trans hW
   replace hb:=hW.get hb;replace hz:=hW.get hz;replace hp:=hW.get hp
   have hl0:=Z5 hb
   have hP:=set_pair hp (.int .i64 (max pa fa)) (.int .i64 (min pb fb))
   have hC:=Zfl (i:=0) (j:=1) (u:= .int .i64 (max pa fa)) (v:= .int .i64 (min pb fb)) hb02 hb
   have hZ:=Zfl (i:=0) (j:=1) (u:= .int .i64 (max pa fa)) (v:= .int .i64 (min pb fb)) hb01 hz
   have hEY:=(hE3.setCell ⟨bx,0,none⟩ (.int .i64 (max pa fa)) hbw).setCell ⟨bx,1,none⟩ (.int .i64 (min pb fb)) hbw
   have g:=Zc hp;have p0:=g.1;have p1:=g.2.1;have p2:=g.2.2.1;have p3:=g.2.2.2
   clear g q0 q1 q2 q3 q4 g0 g1 g2 g3 g4 kc k0 k1 k2 k3 k4 ky0 ky1 s0 s1 s2 s3 s4 hc y0 y1 hE3 hE hW hb hz
   go_wp2_with fail
   refine Zfm ?_
   go_wp2_with fail
   exact⟨⟨i+1,by omega,by omega,by push_cast;rfl,hEY,hC,hZ,_,_,hP,HN⟩,by simp[intOf];omega⟩
end Go.Proofs.Tryq
namespace Go.Proofs.Tryq
open Go Go.Nk Go.RowKit
set_option linter.all false
end Go.Proofs.Tryq
section
namespace Go.Proofs.Tryq
open Go Go.Nk Go.RowKit
theorem Zh7(b o j:Nat):(⟨b,o,none⟩:Addr).add j=⟨b,o+j,none⟩:=by unfold Addr.add;split<;>simp_all
end Go.Proofs.Tryq
namespace Go.Proofs.Tryq
open Go Go.Nk Go.RowKit
end Go.Proofs.Tryq
end
namespace Go.Nk
open Go Go.Region Go.Proofs.Tryq
structure Pre(E:World→World→Prop):Prop where
 rfl':∀w,E w w
 trans:∀{a b c},E a b→E b c→E a c
 drew:∀w,E w w.drew
structure GrE(E:World→World→Prop)(w:World) where
 W:World
 h:E w W
structure ExtX(X:Nat→Prop)(w w':World):Prop where
 size:w.heap.size≤w'.heap.size
 old:∀b,b<w.heap.size→¬X b→w'.heap[b]? =w.heap[b]?
 tape:w'.tape=w.tape
 os:w'.os=w.os
 output:w'.output=w.output
theorem ExtX.pre(X:Nat→Prop):Pre (ExtX X):=
 ⟨fun w=>⟨Nat.le_refl _,fun _ _ _=>rfl,rfl,rfl,rfl⟩,fun h h'=>⟨Nat.le_trans h.size h'.size,fun b hb hx=>(h'.old b (Nat.lt_of_lt_of_le hb h.size) hx).trans (h.old b hb hx),h'.tape.trans h.tape,h'.os.trans h.os,h'.output.trans h.output⟩,fun w=>⟨Nat.le_refl _,fun _ _ _=>rfl,rfl,rfl,rfl⟩⟩
theorem Ext.toX{w w':World}(h:Ext w w')(X:Nat→Prop):ExtX X w w':=⟨h.size,fun b hb _=>h.old b hb,h.tape,h.os,h.output⟩
theorem ExtX.cellS{X:Nat→Prop}{w w':World}(h:ExtX X w w'){a:Addr}{v:Value}(hx:¬X a.block)(hc:w.cell? a=some v):w'.cell? a=some v:=by
 have hlt:a.block<w.heap.size:=by
  unfold World.cell? at hc
  split at hc
  ·rename_i hh;exact(Array.getElem?_eq_some_iff.1 hh).1
  ·cases hc
 simp only[World.cell?,h.old _ hlt hx] at*
 exact hc
instance (X:Nat→Prop)(w:World):Nonempty (GrE (ExtX X) w):=⟨⟨w,(ExtX.pre X).rfl' w⟩⟩
theorem GrE.cell{X:Nat→Prop}{w:World}{a:Addr}{v:Value}(hx:¬X a.block)(hc:w.cell? a=some v)(p:GrE (ExtX X) w):p.W.cell? a=some v:=p.h.cellS hx hc
section
variable {P:Program} {ops:Array Oper} {R:Exit→Act→World→Prop} {E:World→World→Prop}
def ZhT(P:Program)(ops:Array Oper)(R:Exit→Act→World→Prop)(E:World→World→Prop):Nat→Array Bool→Act→World→Prop
 |0,listed,a,w=>Region.ready .any ops listed=[]∧R .normal a w
 |n+1,listed,a,w=>(Region.ready .any ops listed=[]→R .normal a w)∧∀i∈Region.ready .any ops listed,
   wpOp P ops FQ i (fun a' W'=>E w W'∧ZhT P ops R E n (listed.setIfInBounds i true) a' W') a w
theorem wpAny_of_X:∀(n:Nat)(l:Array Bool)(a:Act)(w:World),ZhT P ops R E n l a w→wpAny P .any ops R n l a w
 |0,_,_,w,h=>h
 |n+1,_,_,w,h=>⟨h.1,fun i hi=>Zf8 noFQ (fun a' w' h'=>wpAny_of_X n _ a' w' h'.2) (h.2 i hi)⟩
def YVX(P:Program)(o:Oper)(a:Act)(W:World)(v:Value):Prop:=match (execOp a.eval o).run P W with
 | .ok (.value u) W'=>u=v∧W'=W
 | .ok .skip W'=>v=undef∧W'=W
 |_=>False
def YX(P:Program)(ops:Array Oper)(E:World→World→Prop)(w:World)(o:Oper)(v:Value)(a:Act):Prop:=
 (Region.wanted o (yielded ops a.tmps)=true∧∀W,E w W→YVX P o a W v)∨(Region.wanted o (yielded ops a.tmps)=false∧v=undef)
theorem YX.ext(hE:Pre E){w W:World}{o:Oper}{v:Value}{a:Act}(h:YX P ops E w o v a)(e:E w W):YX P ops E W o v a:=
 h.imp (fun h=>⟨h.1,fun W' h'=>h.2 W' (hE.trans e h')⟩) id
theorem YX.kept{w:World}{oi oj:Oper}{v u:Value}{a:Act}{d:List Deferred}(hap:oi.apart ops oj=true)(hsi:∀cs b,oi.op≠.select cs b)(hy:YX P ops E w oi v a):YX P ops E w oi v ({a with defers:=d}.put oj.dst u):=by
 obtain⟨h1,h2,h3⟩:=Oper.apart_spec hap
 have e1:execOp ({a with defers:=d}.put oj.dst u).eval oi=execOp a.eval oi:=execOp_put oi hsi _ oj.dst u h3
 have e2:=wanted_put oi ({a with defers:=d}:Act) oj.dst u h3
 unfold YX YVX at*
 rw[e1,e2]
 exact hy
theorem YX.wpOp(hE:Pre E){i:Nat}{o:Oper}{v:Value}{a:Act}{w:World}(hi:ops[i]? =some o)(hy:YX P ops E w o v a){K:Act→World→Prop}{R:Exit→Act→World→Prop}(h:K (a.put o.dst v) w):wpOp P ops R i K a w:=by
 unfold Go.wpOp
 simp only[hi]
 rcases hy with⟨hw,hv⟩|⟨hw,rfl⟩
 ·simp only[hw,if_true]
  refine .inl ?_
  have h3:=hv w (hE.rfl' w)
  unfold YVX at h3
  unfold Oper.wp
  generalize (execOp a.eval o).run P w=r at*
  cases r with
  |ok n w'=>
   cases n<;>simp only at h3<;>simp only[Oper.upon]
   case value u=>obtain⟨rfl,rfl⟩:=h3;exact h
   case skip=>obtain⟨rfl,rfl⟩:=h3;exact h
  |halt x w'=>simp only at h3
 ·simp only[hw,Bool.false_eq_true,if_false];exact h
theorem ZhA(hE:Pre E){i:Nat}{oi:Oper}{v:Value}(hi:ops[i]? =some oi)(hsel:∀(j:Nat)(o:Oper) cs b,ops[j]? =some o→o.op≠.select cs b):
 ∀(n:Nat)(listed:Array Bool)(a:Act)(w:World),
  (∀j oj,ops[j]? =some oj→j≠i→listed.getD j true=false→(∀e∈oj.after,Region.binds .any e=true→e.on≠i)→oi.apart ops oj=true)→
  i∈Region.ready .any ops listed→YX P ops E w oi v a→ZhT P ops R E n (listed.setIfInBounds i true) (a.put oi.dst v) w→ZhT P ops R E (n+1) listed a w:=by
 intro n
 induction n with
 |zero=>
  intro listed a w _ hr hy H
  refine⟨fun h=>(by rw[h] at hr;cases hr),fun j hj=> ?_⟩
  by_cases hji:j=i
  ·subst hji;exact hy.wpOp hE hi ⟨hE.rfl' w,H⟩
  ·have:=Go.ready_mono hj hji
   rw[H.1] at this
   cases this
 |succ n ih=>
  intro listed a w hfree hr hy H
  refine⟨fun h=>(by rw[h] at hr;cases hr),fun j hj=> ?_⟩
  by_cases hji:j=i
  ·subst hji;exact hy.wpOp hE hi ⟨hE.rfl' w,H⟩
  ·obtain⟨hjun,oj,hoj,hall⟩:=Go.mem_ready.1 hj
   have hap:=hfree j oj hoj hji hjun (ZeW (j:=j) (Go.mem_ready.1 hr).1 hall)
   have hfree':∀k ok,ops[k]? =some ok→k≠i→(listed.setIfInBounds j true).getD k true=false→
    (∀e∈ok.after,Region.binds .any e=true→e.on≠i)→oi.apart ops ok=true:=fun k ok hk hki hun hno=>by
    refine hfree k ok hk hki ?_ hno
    by_cases hjk:j=k
    ·subst hjk;exact hjun
    ·rw[getD_set_ne true hjk] at hun;exact hun
   have h1:=H.2 j (Go.ready_mono hj hji)
   refine wpOp_mono (fun a' w' h3=> ?_) (ZeV hoj hap (fun cs b=>hsel j oj cs b hoj) h1)
   obtain⟨⟨u,d,rfl⟩,h4,h5⟩:=h3
   refine⟨h4,ih (listed.setIfInBounds j true) _ w' hfree' (Go.ready_mono hr (Ne.symm hji)) (YX.kept hap (fun cs b=>hsel i oi cs b hi) (hy.ext hE h4)) ?_⟩
   rw[Array.setIfInBounds_comm _ _ hji]
   exact h5
def LXE(P:Program)(ops:Array Oper)(R:Exit→Act→World→Prop)(E:World→World→Prop)(l:List Nat)(a:Act)(w:World):Prop:=ZhT P ops R E (ops.size - l.length) (mark ops.size l) a w
variable {l:List Nat}
def ZhQ(ops:Array Oper)(l:List Nat)(k:Nat):Bool:=decide (l.length<ops.size)&&(Region.ready .any ops (mark ops.size l)).contains k&&Region.free .any ops (mark ops.size l) k
theorem ZhR(hE:Pre E){k:Nat}{o:Oper}{v:Value}{a:Act}{w:World}(hs:Region.noSelect ops=true)(hi:ops[k]? =some o)(hf:ZhQ ops l k=true)(hy:YX P ops E w o v a)(h:LXE P ops R E (k::l) (a.put o.dst v) w):LXE P ops R E l a w:=by
 unfold ZhQ at hf
 simp only[Bool.and_eq_true,decide_eq_true_eq] at hf
 obtain⟨⟨h2,h3⟩,h4⟩:=hf
 unfold LXE at*
 rw[show ops.size - l.length=(ops.size - (k::l).length)+1 by simp only[List.length_cons];omega]
 exact ZhA hE hi (Region.noSelect_spec hs) _ _ a w (Region.free_spec hi h4) (by simpa using h3) hy h
theorem Zh4(k:Nat){o:Oper}{a:Act}{w:World}(hi:ops[k]? =some o)(hb:(decide (l.length<ops.size)&&Region.ready .any ops (mark ops.size l)==[k])=true)(hw:Region.wanted o (yielded ops a.tmps)=true)
 (h:o.wp P a w (fun a' W'=>E w W'∧LXE P ops R E (k::l) a' W') FQ):LXE P ops R E l a w:=by
 simp only[Bool.and_eq_true,decide_eq_true_eq,beq_iff_eq] at hb
 unfold LXE at*
 rw[show ops.size - l.length=(ops.size - (k::l).length)+1 by simp only[List.length_cons];omega]
 refine⟨fun h0=>(by rw[h0] at hb;cases hb.2),fun i hi'=> ?_⟩
 rw[hb.2] at hi'
 obtain rfl:i=k:=by simpa using hi'
 unfold wpOp
 simp only[hi,hw,if_true]
 exact .inl h
theorem ZhF{a:Act}{w:World}(hk:(ops.size==l.length&&(Region.ready .any ops (mark ops.size l)).isEmpty)=true)(h:R .normal a w):LXE P ops R E l a w:=by
 rw[Bool.and_eq_true,beq_iff_eq,List.isEmpty_iff] at hk
 unfold LXE
 rw[show ops.size - l.length=0 by omega]
 exact⟨hk.2,h⟩
theorem ZhU{o:Oper}(ho:ZeC o=true){a:Act}{C:World→Prop}{W:World}{v:Value}(h3:o.quietAt P a C W v):YVX P o a W v:=by
 unfold Oper.quietAt at h3
 unfold YVX
 cases hr:(execOp a.eval o).run P W with
 |ok n w'=>
  rw[hr] at h3
  cases n<;>simp only[Oper.quietUpon] at h3
  case value u=>exact⟨h3.2,h3.1⟩
  case skip=>exact⟨h3.2,h3.1⟩
  case enter f args=>exact(ZeK ho hr).elim
 |halt x w'=>rw[hr] at h3;simp only[Oper.quietUpon] at h3
def Zhu(ops:Array Oper):List Nat→List Nat→Bool
 |[],_=>true
 |k::ks,l=>ZhQ ops l k&&(match ops[k]? with|some o=>ZeC o|none=>false)&&Zhu ops ks (k::l)
theorem ZhN(hE:Pre E){w:World}(hs:Region.noSelect ops=true):∀(ks l:List Nat)(a:Act),Zhu ops ks l=true→wpQuiet P ops (fun w'=>∃p:GrE E w,w'=p.W) (fun a'=>LXE P ops R E (doneL ks l) a' w) (ZeD ops.toList ks) a→LXE P ops R E l a w:=by
 intro ks
 induction ks with
 |nil=>intro l a _ h;exact h
 |cons k ks ih=>
  intro l a hp h
  simp only[Zhu,Bool.and_eq_true] at hp
  obtain⟨⟨hf,ho⟩,hp⟩:=hp
  cases hi:ops[k]? with
  |none=>rw[hi] at ho;cases ho
  |some o=>
   rw[hi] at ho
   rw[ZeD,show ops.toList[k]? =some o by rw[Array.getElem?_toList];exact hi] at h
   have hq:qOp P ops (fun w'=>∃p:GrE E w,w'=p.W) k (wpQuiet P ops (fun w'=>∃p:GrE E w,w'=p.W) (fun a'=>LXE P ops R E (doneL (k::ks) l) a' w) (ZeD ops.toList ks)) a:=by
    unfold qOp;simp only[hi];exact h
   obtain⟨v,hy,hK⟩:=yieldsIn_of_qOp hi hq
   exact ZhR hE hs hi hf (hy.imp (fun h=>⟨h.1,fun W hW=>ZhU ho (h.2 W ⟨⟨W,hW⟩,rfl⟩)⟩) id) (ih _ _ hp hK)
theorem Zh8(hE:Pre E){o:List Oper}(ks:List Nat){a:Act}{w:World}(hs:Region.noSelect o.toArray=true)(hp:Zhu o.toArray ks l=true)(h:wpQuiet P o.toArray (fun w'=>∃p:GrE E w,w'=p.W) (fun a'=>LXE P o.toArray R E (doneL ks l) a' w) (ZeD o ks) a):LXE P o.toArray R E l a w:=
 ZhN hE hs ks l a hp h
theorem Zhk(E:World→World→Prop){id:Nat}{a:Act}{w:World}(hm:P.follows .mixedOrders=true)(h:LXE P ops R E [] a w.drew):(Code.region id ops true).wp P R a w:=by
 unfold LXE at h
 exact wp_region_any hm (wpAny_of_X _ _ _ _ h)
end
end Go.Nk
namespace Go.Proofs.Tryq
open Go Go.Nk Go.RowKit
set_option linter.all false
theorem OwnI.raw2{b:Nat}{w:World}{v:Value}{l:List Int}(h:OwnI b w v l):∃ao cp,v= .slice ao l.length cp∧(ao=none→cp=0)∧l.length≤cp∧RawI w ao l:=by
 rcases h.2 with⟨rfl,h0⟩|⟨g,cp,cu,rfl,_,_,h1,_⟩
 ·have:l=[]:=List.length_eq_zero_iff.1 h0
  subst this
  exact⟨none,0,rfl,fun _=>rfl,Nat.le_refl _,fun i x hx=>by simp at hx⟩
 ·exact⟨_,cp,rfl,(fun h=>nomatch h),h1,OwnI.raw h⟩
theorem OwnI.one{b:Nat}{w:World}{v:Value}{l:List Int}(h:OwnI b w v l):v.oneCell'=true:=by
 obtain⟨ao,cp,rfl,_⟩:=h.raw2
 rfl
theorem Shr.cells{B:Nat}{w:World}{g n cp:Nat}{ls:List (List Int)}(h:Shr B w (.slice (some ⟨g,0,none⟩) n cp) ls){j:Nat}{s:List Int}(hs:ls[j]? =some s):∃ao c,w.cell? ⟨g,j,none⟩=some (.slice ao s.length c)∧(ao=none→c=0)∧s.length≤c∧RawI w ao s:=by
 obtain⟨_,vs,h1,h2⟩:=h
 obtain⟨u,hu,hou⟩:=h2.get j s hs
 obtain⟨ao,c,rfl,h3,h4,h5⟩:=hou.raw2
 have:=h1.cells (g:=g) rfl j _ hu
 rw[Zh7,Nat.zero_add] at this
 exact⟨ao,c,this,h3,h4,h5⟩
theorem Shr.own{B:Nat}{w:World}{v:Value}{ls:List (List Int)}(h:Shr B w v ls)(h0:ls≠[]):∃g cp,v= .slice (some ⟨g,0,none⟩) ls.length cp∧B≤g∧g<w.heap.size∧ls.length≤cp:=by
 obtain⟨_,vs,h1,h2⟩:=h
 have hl:=h2.length
 have:0<ls.length:=List.length_pos_iff.2 h0
 rcases h1.2 with⟨_,h3⟩|⟨g,cp,cu,rfl,hb,hg,h3,_⟩
 ·omega
 ·exact⟨g,cp,by rw[hl],hb,Z5 hg,by omega⟩
theorem ZhP{o:Oper}{a:Act}{w:World}{K:Act→World→Prop}{Q:Exit→Act→World→Prop}(s x:Operand)(ho:o.op= .call {callee:= .builtin .append,args:= #[s,x],argTypes:= #[57,57]})
 (base:Nat)(v:Value)(S:List (List Int))(hs:a.eval s=v)(hown:Shr base w v S)(b:Nat)(u:Value)(l:List Int)(hx:a.eval x= .slice (some ⟨b,0,none⟩) 1 1)(hc:w.cell? ⟨b,0,none⟩=some u)(hu:OwnI base w u l)
 (hb:S.length≤1000000)(hbase:base≤w.heap.size)
 (h:∀g cap w',Shr base w' (.slice (some ⟨g,0,none⟩) (S.length+1) cap) (S++[l])→w.grownBy w' v.ownBlock→(v.ownBlock=some g∨g=w.heap.size)→g<w'.heap.size→K (a.put o.dst (.slice (some ⟨g,0,none⟩) (S.length+1) cap)) w'):o.wp prog a w K Q:=by
 obtain⟨h0,vs,h1,h2⟩:=hown
 have hl:=h2.length
 refine wp_append_lies w s x 57 ho base 27 Tryz.t27 (.slice none 0 0) 1 24 u57 i27 t27z t27s t27b rfl (by omega) v vs.length vs hs h1 ⟨b,0,none⟩ 1 1 [u] hx rfl ?_ (by intro z hz;rw[List.mem_singleton.1 hz];exact hu.one) (by omega) (by simp only[maxLen];omega) (by omega) hbase _ rfl ?_
 ·intro j z hz
  match j,hz with
  |0,hz=>
   obtain rfl:=Option.some.inj hz
   rw[Zh7]
   exact hc
 ·intro g cap w' k1 k2 k3 k4
  rw[hl] at k1
  rw[hl]
  refine h g cap w' ⟨fun e=>by simp at e,vs++[u],?_,Each.append (h2.mono fun u s hu=>World.ownsRow.kept hu k2 (Z4i hu h1 (by decide))) ⟨World.ownsRow.kept hu k2 (Z4i hu h1 (by decide)),trivial⟩⟩ k2 k3 k4
  rw[List.length_append,hl]
  exact k1
end Go.Proofs.Tryq
namespace Go.Proofs.Tryq
set_option maxRecDepth 100000
set_option maxHeartbeats 2000000
open Go Go.Nk Go.RowKit
@[go_sem] theorem eq46 (a b c d a' b' c' d':Int) (w:World):(Op.equalIn 10000 46 (.agg #[.int .i64 a,.int .i64 b,.int .i64 c,.int .i64 d]) (.agg #[.int .i64 a',.int .i64 b',.int .i64 c',.int .i64 d'])).run prog w= .ok (a==a'&&b==b'&&c==c'&&d==d') w:=by
  have u3:prog.underlying 3=some (.int .i64):=(underlying_eq 3).trans Tryz.underlying3
  have u44:prog.underlying 44=some (.int .i64):=(underlying_eq 44).trans Tryz.underlying44
  have u30:prog.underlying 30=some (.int .i64):=(underlying_eq 30).trans Tryz.underlying30
  have a3:=Tryz.isAgg3
  have z3:=Tryz.sizeOf3
  have hS:prog.underlying 46=some (.struct (prog.fieldsOf 46)):=by kernel_rfl
  have hp:prog.stoodInHeld 46=false:=by kernel_rfl
  rw[show(10000:Nat)=9999+1 from rfl,run_equalIn_agg w 9999 46 _ _ hS hp]
  simp only[Program.fieldsOf,underlying_eq,Tryz.underlying46]
  go_simp
  by_cases h1:a=a'<;>by_cases h2:b=b'<;>by_cases h3:c=c'<;>by_cases h4:d=d'<;>simp[h1,h2,h3,h4]
@[go_sem] theorem guard46 (op:BinOp) (p q:Operand) (xs ys:Array Value) (w:World):(eqGuard op 46 p q (.agg xs) (.agg ys)).run prog w= .ok () w:=run_eqGuard_agg w op 46 p q xs ys (by kernel_rfl)
def apB(x y:Ap):Bool:=x.p==y.p&&x.q==y.q&&(x.k:Int)==(y.k:Int)&&x.s==y.s
def apsB:List Ap→List Ap→Bool
 |[],[]=>true
 |x::l,y::k=>apB x y&&apsB l k
 |_,_=>false
theorem Z67{l k:List Ap}{i:Nat}{x y:Ap}(hx:l[i]? =some x)(hy:k[i]? =some y):apsB (l.drop i) (k.drop i)=(apB x y&&apsB (l.drop (i+1)) (k.drop (i+1))):=by rw[Z0b hx,Z0b hy];rfl
theorem apsB_len:∀{l k:List Ap},l.length≠k.length→apsB l k=false
 |[],[],h=>absurd rfl h
 |[],_::_,_=>rfl
 |_::_,[],_=>rfl
 |x::l,y::k,h=>by rw[apsB,apsB_len (l:=l) (k:=k) (by simpa using h),Bool.and_false]
def RawAp(w:World)(base:Option Addr)(A:List Ap):Prop:=∀(i:Nat)(x:Ap),A[i]? =some x→∃b off,base=some ⟨b,off,none⟩∧b<w.heap.size∧(w.cell? ⟨b,off+i*4,none⟩=some (.int .i64 x.p)∧w.cell? ⟨b,off+i*4+1,none⟩=some (.int .i64 x.q)∧w.cell? ⟨b,off+i*4+2,none⟩=some (.int .i64 x.k)∧w.cell? ⟨b,off+i*4+3,none⟩=some (.int .i64 x.s))
theorem RawAp.ext{w w':World}{base:Option Addr}{A:List Ap}(h:RawAp w base A)(e:Ext w w'):RawAp w' base A:=by
 intro i x hi
 obtain⟨b,off,h1,h2,h3,h4,h5,h6⟩:=h i x hi
 exact⟨b,off,h1,e.lt h2,e.cellS h3,e.cellS h4,e.cellS h5,e.cellS h6⟩
theorem Z25(a1:Option Addr)(n1 c1:Nat)(l:List Ap)(a2:Option Addr)(n2 c2:Nat)(k:List Ap)(w:World)(h1:l.length=n1)(h2:k.length=n2)(hb:n1≤1000000∧n2≤1000000)(hl:RawAp w a1 l)(hk:RawAp w a2 k):
 Calls prog 29 #[.slice a1 n1 c1,.slice a2 n2 c2] w fun e w'=>e= .returned (.bool (apsB l k))∧Ext w w':=by
 by_cases hn:n1=n2
 ·have H:Hid (apsB l k=apsB (l.drop 0) (k.drop 0)):=rfl
  subst hn
  obtain⟨n,hn⟩:∃n,n=n1:=⟨_,rfl⟩
  subst hn
  go_enter func29,ntmps29
  go_wp2
  go_loopw [5] (fun v wr=>∃i:Nat,i≤n∧v= .int .i64 i∧Ext w wr∧Hid (apsB l k=apsB (l.drop i) (k.drop i))) (fun v _=>n - (intOf v).toNat)
  case atStart=>exact⟨0,Nat.zero_le _,rfl,Ext.rfl' w,H⟩
  case round=>
   obtain⟨i,hi,rfl,hE,hH⟩:=hrel
   clear H
   by_cases hin:i=n
   ·subst hin
    have hz:apsB l k=true:=by rw[hH.out,Z1Z h1,Z1Z h2];rfl
    go_wp2
    go_ret
    exact⟨ZP (a:=true) hz.symm,hE⟩
   ·have hlt:i<n:=by omega
    obtain⟨x,hx⟩:∃x,l[i]? =some x:=⟨_,List.getElem?_eq_getElem (by omega)⟩
    obtain⟨y,hy⟩:∃y,k[i]? =some y:=⟨_,List.getElem?_eq_getElem (by omega)⟩
    obtain⟨ba,oa,rfl,hba,hxa⟩:=(hl.ext hE) i x hx
    obtain⟨bb,ob,rfl,hbb,hyb⟩:=(hk.ext hE) i y hy
    have eqAp:(!(x.p==y.p&&x.q==y.q&&(x.k:Int)==(y.k:Int)&&x.s==y.s))= !apB x y:=rfl
    go_wp2_with fail
    have gz0:=Zet hxa.1
    have gz1:=Zet hxa.2.1
    have gz2:=Zet hxa.2.2.1
    have gz3:=Zet hxa.2.2.2
    have gz4:=Zet hyb.1
    have gz5:=Zet hyb.2.1
    have gz6:=Zet hyb.2.2.1
    have gz7:=Zet hyb.2.2.2
    refine ZeG 9 (by kernel_rfl) ?_
    refine ZeB [0,1,2,3,4,5,6,7,8] (by kernel_rfl) (by kernel_rfl) ?_
    simp only[ZeD,List.getElem?_cons_succ,List.getElem?_cons_zero,List.cons_append,List.nil_append]
    repeat (go_big_quiet_step (fail))
    refine wpQuiet_nil ?_
    refine Zf6 (by kernel_rfl) (fun W hW=> ?_)
    have hEW:=hW
    clear gz0 gz1 gz2 gz3 gz4 gz5 gz6 gz7
    have hEW2:=hE.trans hEW
    by_cases hxy:apB x y=true
    ·have hb:(!apB x y)=false:=by simp[hxy]
     have hH2:Hid (apsB l k=apsB (l.drop (i+1)) (k.drop (i+1))):=by show _=_;rw[hH.out,Z67 hx hy,hxy,Bool.true_and]
     rw[hb]
     clear hb
     go_wp2
     go_roundw
     case rel=>exact⟨i+1,by omega,by push_cast;rfl,hEW2,hH2⟩
     case measure=>simp[intOf];omega
    ·have hb:(!apB x y)=true:=by simpa using hxy
     have hH2:apsB l k=false:=by rw[hH.out,Z67 hx hy,(by simpa using hxy:apB x y=false),Bool.false_and]
     rw[hb]
     clear hb
     go_wp2
     go_ret
     exact⟨ZP (a:=false) hH2.symm,hEW2⟩
 ·have hz:apsB l k=false:=apsB_len (by omega)
  have hnn:¬(n1:Int)=(n2:Int):=by omega
  go_enter func29,ntmps29
  go_wp2
  go_ret
  exact⟨ZP (a:=false) hz.symm,Ext.rfl' w⟩
end Go.Proofs.Tryq
namespace Go.Proofs.Tryq
set_option maxRecDepth 100000
set_option maxHeartbeats 4000000
open Go Go.Nk Go.RowKit
theorem Z7J(w:World)(a:Addr)(v:Value):(w.setCell a v).heap.size=w.heap.size:=(Go.Conc.aside_setCell w a v).size
def exL:List Sf:=[⟨⟨#[97]⟩,400,405,700,700,250,252⟩,⟨⟨#[98]⟩,404,408,701,701,251,251⟩,⟨⟨#[99]⟩,398,402,700,701,249,250⟩,⟨⟨#[100]⟩,409,412,700,700,255,255⟩,⟨⟨#[101]⟩,402,402,702,702,252,254⟩,⟨⟨#[102]⟩,405,406,701,702,253,253⟩,⟨⟨#[103]⟩,450,450,700,700,250,250⟩]
def exC:Array Value:=(exL.flatMap fun x=>(sfC x).toList).toArray
theorem exC_eq:exC= #[.string ⟨#[97]⟩,.int .i64 400,.int .i64 405,.int .i64 700,.int .i64 700,.int .i64 250,.int .i64 252,.string ⟨#[98]⟩,.int .i64 404,.int .i64 408,.int .i64 701,.int .i64 701,.int .i64 251,.int .i64 251,.string ⟨#[99]⟩,.int .i64 398,.int .i64 402,.int .i64 700,.int .i64 701,.int .i64 249,.int .i64 250,.string ⟨#[100]⟩,.int .i64 409,.int .i64 412,.int .i64 700,.int .i64 700,.int .i64 255,.int .i64 255,.string ⟨#[101]⟩,.int .i64 402,.int .i64 402,.int .i64 702,.int .i64 702,.int .i64 252,.int .i64 254,.string ⟨#[102]⟩,.int .i64 405,.int .i64 406,.int .i64 701,.int .i64 702,.int .i64 253,.int .i64 253,.string ⟨#[103]⟩,.int .i64 450,.int .i64 450,.int .i64 700,.int .i64 700,.int .i64 250,.int .i64 250]:=by rfl
theorem Z6U(w:World):Calls prog 84 #[] w fun e w'=>∃B,e= .returned (.agg #[.int .i64 10,.int .i64 2,.int .i64 5,.int .i64 3,.slice (some ⟨B,0,none⟩) 7 7])∧w'.heap[B]? =some (.cells exC 51)∧Ext w w':=by
 have hEc:=Ext.rfl' (w.alloc (.cells #[.int .i64 0,.int .i64 0,.int .i64 0,.int .i64 0,.slice none 0 0] 26))
 have hg0:(w.alloc (.cells #[.int .i64 0,.int .i64 0,.int .i64 0,.int .i64 0,.slice none 0 0] 26)).heap[w.heap.size]? =some (.cells #[.int .i64 0,.int .i64 0,.int .i64 0,.int .i64 0,.slice none 0 0] 26):=by rw[Z3,if_pos rfl]
 go_enter func84,ntmps84
 go_wp2_with (
  go_at_call 34;refine(Z3P _ _ _).mono ?_;rintro e w2 ⟨rfl,hE2⟩
  replace hEc:=hEc.trans hE2
  clear hE2
  (try clear z0 z1 z2 z3 z4 y0 y1 y2 y3 y4 hlt0)
  have hlt0:=Z5 (hEc.get hg0)
  have z0:=Z8 (hEc.get hg0) 0;have z1:=Z8 (hEc.get hg0) 1;have z2:=Z8 (hEc.get hg0) 2;have z3:=Z8 (hEc.get hg0) 3;have z4:=Z8 (hEc.get hg0) 4
  have y0:=Z0 (hEc.get hg0) 0;have y1:=Z0 (hEc.get hg0) 1;have y2:=Z0 (hEc.get hg0) 2;have y3:=Z0 (hEc.get hg0) 3;have y4:=Z0 (hEc.get hg0) 4
  simp only[List.getElem?_toArray,List.getElem?_cons_zero,List.getElem?_cons_succ] at y0 y1 y2 y3 y4)
 have hEw:Ext w w2:=((Ext.rfl' w).alloc _).trans hEc
 have hb3:=(Zb (Zb (Zb (Zb (Zb (hEc.get hg0) (i:=0) (.int .i64 10)) (i:=1) (.int .i64 2)) (i:=2) (.int .i64 5)) (i:=3) (.int .i64 3)) (i:=4) (.slice (some ⟨w2.heap.size,0,none⟩) 7 7))
 have hE9:=(((((hEw.setCell ⟨w.heap.size,0,none⟩ (.int .i64 10) (Nat.le_refl _)).setCell ⟨w.heap.size,1,none⟩ (.int .i64 2) (Nat.le_refl _)).setCell ⟨w.heap.size,2,none⟩ (.int .i64 5) (Nat.le_refl _)).setCell ⟨w.heap.size,3,none⟩ (.int .i64 3) (Nat.le_refl _)).setCell ⟨w.heap.size,4,none⟩ (.slice (some ⟨w2.heap.size,0,none⟩) 7 7) (Nat.le_refl _))
 have hs9:w2.heap.size=(((((w2.setCell ⟨w.heap.size,0,none⟩ (.int .i64 10)).setCell ⟨w.heap.size,1,none⟩ (.int .i64 2)).setCell ⟨w.heap.size,2,none⟩ (.int .i64 5)).setCell ⟨w.heap.size,3,none⟩ (.int .i64 3)).setCell ⟨w.heap.size,4,none⟩ (.slice (some ⟨w2.heap.size,0,none⟩) 7 7)).heap.size:=by simp only[Z7J]
 have hn9:w2.heap.size≠w.heap.size:=by omega
 generalize World.setCell _ _ _=w9 at hb3 hE9 hs9⊢
 have hb4:=((Ext.rfl' w9).alloc (.cells exC 51)).get hb3
 have s0:=Z0 hb4 0;have s1:=Z0 hb4 1;have s2:=Z0 hb4 2;have s3:=Z0 hb4 3;have s4:=Z0 hb4 4
 simp at s0 s1 s2 s3 s4
 rw[←exC_eq]
 refine bodyPost_ret (v:= .agg #[.int .i64 10,.int .i64 2,.int .i64 5,.int .i64 3,.slice (some ⟨w2.heap.size,0,none⟩) 7 7]) ((Z07 rfl _ _ _).trans ?_) rfl ⟨w2.heap.size,rfl,by rw[Z3,if_pos hs9],hE9.alloc _⟩
 simp[go_sem,s0,s1,s2,s3,s4]
def exS:List Rs:=[⟨10,30,32,0,0⟩,⟨20,55,60,0,0⟩,⟨30,96,99,1,1⟩]
def rsC(x:Rs):List Value:=[.int .i64 x.a,.int .i64 x.m,.int .i64 x.M,.int .i64 x.wi,.int .i64 x.li]
def exD:Array Value:=(exS.flatMap rsC).toArray
theorem exD_eq:exD= #[.int .i64 10,.int .i64 30,.int .i64 32,.int .i64 0,.int .i64 0,.int .i64 20,.int .i64 55,.int .i64 60,.int .i64 0,.int .i64 0,.int .i64 30,.int .i64 96,.int .i64 99,.int .i64 1,.int .i64 1]:=by rfl
theorem Zar(w:World):Calls prog 85 #[] w fun e w'=>∃B,e= .returned (.agg #[.int .i64 2,.int .i64 4,.int .i64 1,.int .i64 2,.slice (some ⟨B,0,none⟩) 3 3])∧w'.heap[B]? =some (.cells exD 80)∧Ext w w':=by
 have hEc:=Ext.rfl' (w.alloc (.cells #[.int .i64 0,.int .i64 0,.int .i64 0,.int .i64 0,.slice none 0 0] 70))
 have hg0:(w.alloc (.cells #[.int .i64 0,.int .i64 0,.int .i64 0,.int .i64 0,.slice none 0 0] 70)).heap[w.heap.size]? =some (.cells #[.int .i64 0,.int .i64 0,.int .i64 0,.int .i64 0,.slice none 0 0] 70):=by rw[Z3,if_pos rfl]
 go_enter func85,ntmps85
 go_wp2_with (
  go_at_call 34;refine(Z3P _ _ _).mono ?_;rintro e w2 ⟨rfl,hE2⟩
  replace hEc:=hEc.trans hE2
  clear hE2
  (try clear z0 z1 z2 z3 z4 y0 y1 y2 y3 y4 hlt0)
  have hlt0:=Z5 (hEc.get hg0)
  have z0:=Z8 (hEc.get hg0) 0;have z1:=Z8 (hEc.get hg0) 1;have z2:=Z8 (hEc.get hg0) 2;have z3:=Z8 (hEc.get hg0) 3;have z4:=Z8 (hEc.get hg0) 4
  have y0:=Z0 (hEc.get hg0) 0;have y1:=Z0 (hEc.get hg0) 1;have y2:=Z0 (hEc.get hg0) 2;have y3:=Z0 (hEc.get hg0) 3;have y4:=Z0 (hEc.get hg0) 4
  simp only[List.getElem?_toArray,List.getElem?_cons_zero,List.getElem?_cons_succ] at y0 y1 y2 y3 y4)
 have hEw:Ext w w2:=((Ext.rfl' w).alloc _).trans hEc
 have hb3:=(Zb (Zb (Zb (Zb (Zb (hEc.get hg0) (i:=0) (.int .i64 2)) (i:=1) (.int .i64 4)) (i:=2) (.int .i64 1)) (i:=3) (.int .i64 2)) (i:=4) (.slice (some ⟨w2.heap.size,0,none⟩) 3 3))
 have hE9:=(((((hEw.setCell ⟨w.heap.size,0,none⟩ (.int .i64 2) (Nat.le_refl _)).setCell ⟨w.heap.size,1,none⟩ (.int .i64 4) (Nat.le_refl _)).setCell ⟨w.heap.size,2,none⟩ (.int .i64 1) (Nat.le_refl _)).setCell ⟨w.heap.size,3,none⟩ (.int .i64 2) (Nat.le_refl _)).setCell ⟨w.heap.size,4,none⟩ (.slice (some ⟨w2.heap.size,0,none⟩) 3 3) (Nat.le_refl _))
 have hs9:w2.heap.size=(((((w2.setCell ⟨w.heap.size,0,none⟩ (.int .i64 2)).setCell ⟨w.heap.size,1,none⟩ (.int .i64 4)).setCell ⟨w.heap.size,2,none⟩ (.int .i64 1)).setCell ⟨w.heap.size,3,none⟩ (.int .i64 2)).setCell ⟨w.heap.size,4,none⟩ (.slice (some ⟨w2.heap.size,0,none⟩) 3 3)).heap.size:=by simp only[Z7J]
 have hn9:w2.heap.size≠w.heap.size:=by omega
 generalize World.setCell _ _ _=w9 at hb3 hE9 hs9⊢
 have hb4:=((Ext.rfl' w9).alloc (.cells exD 80)).get hb3
 have s0:=Z0 hb4 0;have s1:=Z0 hb4 1;have s2:=Z0 hb4 2;have s3:=Z0 hb4 3;have s4:=Z0 hb4 4
 simp at s0 s1 s2 s3 s4
 rw[←exD_eq]
 refine bodyPost_ret (v:= .agg #[.int .i64 2,.int .i64 4,.int .i64 1,.int .i64 2,.slice (some ⟨w2.heap.size,0,none⟩) 3 3]) ((Z07 rfl _ _ _).trans ?_) rfl ⟨w2.heap.size,rfl,by rw[Z3,if_pos hs9],hE9.alloc _⟩
 simp[go_sem,s0,s1,s2,s3,s4]
end Go.Proofs.Tryq
