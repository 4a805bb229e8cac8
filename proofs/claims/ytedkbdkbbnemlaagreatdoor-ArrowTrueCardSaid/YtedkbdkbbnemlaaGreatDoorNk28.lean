import Derived.Test.YtedkbdkbbnemlaaGreatDoorNk27
import Derived.ArgAppend
set_option linter.all false
namespace Go.Proofs.Tryq
set_option maxRecDepth 100000
set_option maxHeartbeats 4000000
open Go Go.Nk Go.RowKit
def bestV(x:Int×Int):Int×Int:=(wrap64 (x.2 - wrap64 ((wrap64 (wrap64 (x.2 - x.1)+1)).tdiv 2)),wrap64 ((wrap64 (wrap64 (x.2 - x.1)+1)).tdiv 2))
def Z8H(r0 r1 r2 r3:Int)(S:List Rs)(a:Int):Int×Int:=if ZA r0 r1 r2 r3 S a=0 then bestV (Z4L r0 r1 r2 r3 S a) else(0,0)
theorem Zc8(r0 r1 r2 r3:Int)(base:Option Addr)(n cap:Nat)(w:World)(at':Int)(S:List Rs)(A2:S.length=n)(hS:RawS w base S)(Dv:Most w):
 Calls prog 51 #[.agg #[.int .i64 r0,.int .i64 r1,.int .i64 r2,.int .i64 r3,.slice base n cap],.int .i64 at'] w fun e w'=>
  e= .returned (.tuple #[.int .i64 (Z8H r0 r1 r2 r3 S at').1,.int .i64 (Z8H r0 r1 r2 r3 S at').2,.int .i64 (ZA r0 r1 r2 r3 S at')])/\Ext w w':=by
 go_enter func51,ntmps51;go_wp2_with fail;have Ao:Ext w _:=(Ext.rfl' w).alloc (.cells #[.int .i64 r0,.int .i64 r1,.int .i64 r2,.int .i64 r3,.slice base n cap] 70);have hb:(w.alloc (.cells #[.int .i64 r0,.int .i64 r1,.int .i64 r2,.int .i64 r3,.slice base n cap] 70)).heap[w.heap.size]? =some (.cells #[.int .i64 r0,.int .i64 r1,.int .i64 r2,.int .i64 r3,.slice base n cap] 70):=by
  simp only[Z3,Z2];rw[if_pos trivial]
 generalize World.alloc _ _=w1 at Ao hb⊢;have hX:=Ext.rfl' w1;have q0:=Z0 hb 0;have q1:=Z0 hb 1;have q2:=Z0 hb 2;have q3:=Z0 hb 3;have q4:=Z0 hb 4;simp only[List.getElem?_toArray,List.getElem?_cons_zero,List.getElem?_cons_succ] at q0 q1 q2 q3 q4;have g0:=Zet q0;have g1:=Zet q1;have g2:=Zet q2;have g3:=Zet q3;have g4:=Zet q4;refine Zfn 9 8 7 [0,1,2,3,4,5,6] (.cells #[.int .i64 0,.int .i64 0,.int .i64 0,.int .i64 0,.slice none 0 0,.slice none 0 0] 146) (by kernel_rfl) rfl (by kernel_rfl) rfl rfl (fun a W=>by simp[go_sem,execOp,Act.eval]) ?_;refine Zfj [0,1] (by kernel_rfl) rfl rfl (by kernel_rfl) ?_;simp only[ZeD,List.getElem?_cons_succ,List.getElem?_cons_zero,List.cons_append,List.nil_append]
 repeat (go_big_quiet_step (fail))
 refine wpQuiet_nil ?_;refine Zfk 2 rfl (by kernel_rfl) rfl (fun W hW=>Zfo (f:=104) (args:= #[.int .i64 at']) (by simp[go_sem,execOp,Act.eval]) ?_);refine(Z9v at' W).mono ?_;rintro e V0 ⟨p0,rfl,hF,Ck⟩;refine⟨.func (.func 151) #[] #[.pointer (some ⟨p0,0,none⟩)],rfl,hF,?_⟩;replace hX:=hX.trans (hW.trans hF);clear hF hW;go_simp;refine Zfk 3 rfl (by kernel_rfl) rfl (fun W hW=>Zf3 ⟨.slice (some ⟨W.heap.size,0,none⟩) 1 1,W.alloc (.cells #[.func (.func 151) #[] #[.pointer (some ⟨p0,0,none⟩)]] 127),by simp[go_sem,execOp,Act.eval],(Ext.rfl' W).alloc _,?_⟩);have C4:=Z30 W #[.func (.func 151) #[] #[.pointer (some ⟨p0,0,none⟩)]] [(151,#[],#[.pointer (some ⟨p0,0,none⟩)])] W.heap.size rfl rfl;have hF:=(hW.alloc (.cells #[.func (.func 151) #[] #[.pointer (some ⟨p0,0,none⟩)]] 127));replace hX:=hX.trans hF;replace Ck:=hF.cellS Ck;clear hF hW;generalize W.heap.size=B2 at C4⊢;generalize World.alloc W _=V9 at*;go_simp;refine Zfk 4 rfl (by kernel_rfl) rfl (fun W hW=>Zfo (f:=103) (args:= #[.agg #[.int .i64 r0,.int .i64 r1,.int .i64 r2,.int .i64 r3,.slice base n cap],.slice (some ⟨B2,0,none⟩) 1 1]) (by simp[go_sem,execOp,Act.eval]) ?_)
 refine(Z4K r0 r1 r2 r3 base n cap W 1 B2 (by omega) [(151,#[],#[.pointer (some ⟨p0,0,none⟩)])] [Zv at'] rfl rfl (fun j x hj=>hW.cellS (C4 j x hj)) (by intro x hx args w';simp only[List.mem_cons,List.not_mem_nil,or_false] at hx;rcases hx with rfl<;>simp[go_sem]) (by
       intro j x r hj hr w' hw'
       match j,hj,hr with
       |0,hj,hr=>
        obtain rfl:=Option.some.inj hj;obtain rfl:=Option.some.inj hr;exact Z3x p0 at' w' ((hW.trans hw').cellS Ck)) S A2 (hS.ext (Ao.trans (hX.trans hW))) (Dv.ext (Ao.trans (hX.trans hW)))).mono ?_
 rintro e V10 ⟨k0,k1,k2,k3,b4,n4,c4,b5,n5,c5,rfl,hF,C8⟩;refine⟨.tuple #[.agg #[.int .i64 k0,.int .i64 k1,.int .i64 k2,.int .i64 k3,.slice b4 n4 c4,.slice b5 n5 c5],.int .i64 (firstV (Zy r0 r1 r2 r3 S [Zv at']))],rfl,hF,?_⟩;replace hX:=hX.trans (hW.trans hF);have Au:Askd r0 r1 r2 r3 base n cap S [Zv at'] k0 k1 k2 k3 b4 n4 c4 b5 n5 c5 V10:=fun h=>by obtain⟨B,p,h0,h1,h2,h3,h4,h5,h6,h7,h8,h9,hC,_⟩:=C8 h;exact⟨B,p,h0,h1,h2,h3,h4,h5,h6,h7,h8,h9,hC⟩
 clear hF hW C8 C4 Ck;go_simp;refine Zfj [5,6,7] (by kernel_rfl) rfl rfl (by kernel_rfl) ?_;simp only[ZeD,List.getElem?_cons_succ,List.getElem?_cons_zero,List.cons_append,List.nil_append]
 repeat (go_big_quiet_step (fail))
 refine wpQuiet_nil ?_;refine Zfq (by kernel_rfl) (fun W hW b hA Bg Ad=> ?_);have Ej:w1.heap.size<=b:=hA.1.1.1;replace hX:=hX.trans hW;replace Au:=Au.ext hW;clear hW;go_simp;refine Zfp 2 (by kernel_rfl) (fun W hW=> ?_);simp only[List.drop_succ_cons,List.drop_zero];replace hX:=hX.trans hW;replace Au:=Au.ext hW;replace Ad:=hW.get Ad;have Cq:w.heap.size<=b:=by have h1:=Ej;have h2:=Ao.size;omega
 have B9:=Ao.trans hX;clear hA Ej Bg hW hX Ao hb q0 q1 q2 q3 q4 g0 g1 g2 g3 g4;have x0:=Z8 Ad 0;have x1:=Z8 Ad 1;have x2:=Z8 Ad 2;have x3:=Z8 Ad 3;have x4:=Z8 Ad 4;have x5:=Z8 Ad 5;have y0:=Z0 Ad 0;have y1:=Z0 Ad 1;have y2:=Z0 Ad 2;have y3:=Z0 Ad 3;have y4:=Z0 Ad 4;have y5:=Z0 Ad 5;simp only[List.getElem?_toArray,List.getElem?_cons_zero,List.getElem?_cons_succ] at y0 y1 y2 y3 y4 y5;have Ac:=Z0K Ad (.int .i64 k0) (.int .i64 k1) (.int .i64 k2) (.int .i64 k3) (.slice b4 n4 c4) (.slice b5 n5 c5);obtain⟨hX,Dj⟩:=Ac;replace Au:=Au.stored Ad Dj;replace B9:=Dj.before B9 Cq;go_wp2_with fail;generalize ((((((W.setCell ⟨b,0,none⟩ (.int .i64 k0)).setCell ⟨b,1,none⟩ (.int .i64 k1)).setCell ⟨b,2,none⟩ (.int .i64 k2)).setCell ⟨b,3,none⟩ (.int .i64 k3)).setCell ⟨b,4,none⟩ (.slice b4 n4 c4)).setCell ⟨b,5,none⟩ (.slice b5 n5 c5))=X at hX Au B9 Dj⊢;clear Dj Ad Cq x0 x1 x2 x3 x4 x5 y0 y1 y2 y3 y4 y5;refine Zfm ?_;go_wp2_with fail
 ·have A8:(firstV (Zy r0 r1 r2 r3 S [Zv at']) !=0)=true:=by assumption
  have Bp:¬ZA r0 r1 r2 r3 S at'=0:=by simpa[ZA] using A8
  go_ret3;exact⟨by rw[Z8H,if_neg Bp];rfl,B9⟩
 ·have heq:(firstV (Zy r0 r1 r2 r3 S [Zv at']) !=0)=false:=by assumption
  have Bp:firstV (Zy r0 r1 r2 r3 S [Zv at'])=0:=by simpa using heq
  obtain⟨G8,Fj,Da,Nq⟩:=Z11 Bp;obtain⟨_,h8,_⟩:=Z0i G8;have Ch:=Z0N (Fj (Zv at') (by simp));obtain⟨d,rfl⟩:=Int.eq_ofNat_of_zero_le Ch.1;have E6:d<=90:=by omega
  obtain⟨B,p',e0,e1,e2,e3,e4,e5,e6,e7,e8,e9,hC⟩:=Au Bp;subst k0 k1 k2 k3 b4 n4 c4 b5 n5 c5;have E1:n<=8:=by omega
  have Be:=fun v w'=>Z08 r0 r1 r2 r3 base n cap v E1 w'
  have hat:=fun w' hm' hC'=>Z2Y r0 r1 r2 r3 (.slice base n cap) B n d (2 ^ n - 1) p' (cvS r0 r1 r2 r3 (S.map Ze)) E1 E6 (Z2Z E1) w' hm' hC'
  have HV:Hid (Z4L r0 r1 r2 r3 S d=atF (cvS r0 r1 r2 r3 (S.map Ze)) (2 ^ n - 1) d n):=by
   show _=_;rw[Z4L,Int.toNat_natCast,A2]
  have Dt:Hid (ZA r0 r1 r2 r3 S d=0):=Bp;have Fd:=Dv.ext B9;clear Au G8 Fj Da Nq heq Bp Ch;generalize (2:Int) ^ n - 1=st at Be hat HV;generalize atF (cvS r0 r1 r2 r3 (S.map Ze)) st d n=V at hat HV;obtain⟨va,vb⟩:=V;have x0:=Z0 hX 0;have x1:=Z0 hX 1;have x2:=Z0 hX 2;have x3:=Z0 hX 3;have x4:=Z0 hX 4;have x5:=Z0 hX 5;simp only[List.getElem?_toArray,List.getElem?_cons_zero,List.getElem?_cons_succ] at x0 x1 x2 x3 x4 x5;have c0:=Zet x0;have c1:=Zet x1;have c2:=Zet x2;have c3:=Zet x3;have c4:=Zet x4;have c5:=Zet x5;refine Zfn 6 5 8 [0,1,2,3,4] (.cells #[.int .i64 0,.int .i64 0] 48) (by kernel_rfl) rfl (by kernel_rfl) rfl rfl (fun a W=>by simp[go_sem,execOp,Act.eval]) ?_;refine Zfj [0,1,3] (by kernel_rfl) rfl rfl (by kernel_rfl) ?_;simp only[ZeD,List.getElem?_cons_succ,List.getElem?_cons_zero,List.cons_append,List.nil_append]
  repeat (go_big_quiet_step (fail))
  refine wpQuiet_nil ?_;refine Zfr 2 (f:=106) (args:= #[.agg #[.int .i64 r0,.int .i64 r1,.int .i64 r2,.int .i64 r3,.slice base n cap,.slice (some ⟨B,0,none⟩) n n]]) (v:= .int .i64 st) (by kernel_rfl) rfl rfl rfl (by kernel_rfl) rfl (fun W=>by simp[go_sem,execOp,Act.eval]) (fun W _=>Be _ W) ?_;go_simp;refine Zfr 4 (f:=105) (args:= #[.agg #[.int .i64 r0,.int .i64 r1,.int .i64 r2,.int .i64 r3,.slice base n cap,.slice (some ⟨B,0,none⟩) n n],.int .i64 st,.int .i64 d]) (v:= .agg #[.int .i64 va,.int .i64 vb]) (by kernel_rfl) rfl rfl rfl (by kernel_rfl) rfl (fun W=>by simp[go_sem,execOp,Act.eval]) (fun W hW=>hat W (Fd.ext hW) (hC.ext hW)) ?_;go_simp;refine Zfq (by kernel_rfl) (fun W hW b hA Bg Ad=> ?_);obtain⟨bx,rfl⟩:∃bx,bx=b:=⟨_,rfl⟩;have An:=hW;clear hW;go_simp;refine Zfp 1 (by kernel_rfl) (fun W hW=> ?_);simp only[List.drop_succ_cons,List.drop_zero];replace Ad:=hW.get Ad;have Bu:=(B9.trans An).trans hW;have Cq:w.heap.size<=bx:=by have h1:=hA;have h2:=B9.size;omega
  have H0:=set_pair Ad (.int .i64 va) (.int .i64 vb);have K2:=(Bu.setCell ⟨bx,0,none⟩ (.int .i64 va) Cq).setCell ⟨bx,1,none⟩ (.int .i64 vb) Cq;have g:=Zc Ad;have g0:=g.1;have g1:=g.2.1;have g2:=g.2.2.1;have g3:=g.2.2.2;clear g Bu B9 hW An Cq hA Bg hC Fd Be hat hX x0 x1 x2 x3 x4 x5 c0 c1 c2 c3 c4 c5;go_wp2_with fail;generalize (W.setCell ⟨bx,0,none⟩ (.int .i64 va)).setCell ⟨bx,1,none⟩ (.int .i64 vb)=Y at H0 K2⊢;clear g0 g1 g2 g3 Ad;refine Zfm ?_;have g:=Zc H0;have g0:=g.1;have g1:=g.2.1;have g2:=g.2.2.1;have g3:=g.2.2.2;go_wp2;go_ret3;exact⟨by rw[Z8H,if_pos Dt.out,Dt.out,HV.out];rfl,K2⟩
end Go.Proofs.Tryq
namespace Go.Proofs.Tryq
open Go Go.Nk Go.RowKit
set_option linter.all false
structure Fine(r0 r1 r2 r3:Int)(S:List Rs):Prop where
 cf:ZC r0 r1 r2 r3 S=0
 ne:S≠[]
 ft:Z20 r0 r1 r2 r3 S (upL S.length)=true
section
variable {r0 r1 r2 r3:Int} {S:List Rs} (hg:Fine r0 r1 r2 r3 S)
include hg
end
set_option linter.all false
section
variable {r0 r1 r2 r3:Int} {S:List Rs} (hg:Fine r0 r1 r2 r3 S)
include hg
end
end Go.Proofs.Tryq
namespace Go.Proofs.Tryq
set_option maxRecDepth 100000
set_option maxHeartbeats 2000000
open Go Go.Nk Go.RowKit
set_option linter.all false
def RawU(w:World)(base:Option Addr)(l:List Int):Prop:=∀(i:Nat)(x:Int),l[i]? =some x->∃b off,base=some ⟨b,off,none⟩/\b<w.heap.size/\w.cell? ⟨b,off+i,none⟩=some (.int .u16 x)
theorem RawU.ext{w w':World}{base:Option Addr}{l:List Int}(h:RawU w base l)(e:Ext w w'):RawU w' base l:=fun i x hi=>by
 obtain⟨b,off,h1,h2,h3⟩:=h i x hi;exact⟨b,off,h1,Nat.lt_of_lt_of_le h2 e.size,e.cellS h3⟩
theorem Zgj{w:World}{b:Nat}{a0 a1 a2 a3 a4:Value}{t:TypeId}(h:w.heap[b]? =some (.cells #[a0,a1,a2,a3,a4] t)):
 w.cell? ⟨b,0,none⟩=some a0/\w.cell? ⟨b,1,none⟩=some a1/\w.cell? ⟨b,2,none⟩=some a2/\w.cell? ⟨b,3,none⟩=some a3/\w.cell? ⟨b,4,none⟩=some a4:=
 ⟨Z0 h 0,Z0 h 1,Z0 h 2,Z0 h 3,Z0 h 4⟩
def Zgu(l:List Int)(k:Nat):Int:=l.getD k 0
theorem Zgp{l:List Int}{m:Int}(hm:0<=m)(h:∀x∈l,0<=x/\x<=m)(k:Nat):0<=Zgu l k/\Zgu l k<=m:=by
 unfold Zgu;rw[List.getD_eq_getElem?_getD];cases hk:l[k]? with
 |none=>exact⟨Int.le_refl _,hm⟩
 |some x=>exact h x (List.mem_of_getElem? hk)
theorem Zgl(base:Option Addr)(n cap:Nat)(l:List Int)(k:Nat)(w:World)(A2:l.length=n)(hk:k<1000)(hu:∀x∈l,0<=x/\x<65536)(h:RawU w base l):
 Calls prog 48 #[.slice base n cap,.int .i64 k] w fun e w'=>e= .returned (.int .i64 (Zgu l k))/\Ext w w':=by
 by_cases Cf:k<n
 ·obtain⟨x,hx⟩:∃x,l[k]? =some x:=⟨_,List.getElem?_eq_getElem (by omega)⟩;obtain⟨b,off,rfl,hb,hc⟩:=h k x hx;have hv:Hid (Zgu l k=x):=by show _=_;rw[Zgu,List.getD_eq_getElem?_getD,hx];rfl
  have Yf:(k:Int)<(n:Int):=by omega
  have hw:wrap64 x=x:=Z6a _ (by have:=hu x (List.mem_of_getElem? hx);omega);clear hx h hu;go_enter func48,ntmps48;go_wp2;rw[hv.out,hw];go_ret;exact⟨rfl,Ext.rfl' _⟩
 ·have hv:Hid (Zgu l k=0):=by show _=_;rw[Zgu,List.getD_eq_getElem?_getD,List.getElem?_eq_none (by omega)];rfl
  have Yf:¬(k:Int)<(n:Int):=by omega
  clear h hu;go_enter func48,ntmps48;go_wp2;rw[hv.out];go_ret;exact⟨rfl,Ext.rfl' _⟩
theorem Zgq(a b n:Int)(w:World)(Cn:a<=b)(ha: -2000000<=a)(hb:b<=2000000)(hn:0<=n/\n<1099511627776):
 Calls prog 47 #[.agg #[.int .i64 a,.int .i64 b],.int .i64 n] w fun e w'=>e= .returned (.int .i64 (a+n % (b - a+1)))/\Ext w w':=by
 have h1:wrap64 (b - a)=b - a:=Z6a _ (by omega);have h2:wrap64 (b - a+1)=b - a+1:=Z6a _ (by omega);have h3:b - a+1≠0:=by omega
 have h4:n.tmod (b - a+1)=n % (b - a+1):=Int.tmod_eq_emod_of_nonneg hn.1;have h5:0<=n % (b - a+1)/\n % (b - a+1)<=b - a:=⟨Int.emod_nonneg _ h3,by have:=Int.emod_lt_of_pos n (show 0<b - a+1 by omega);omega⟩;have Ao:=(Ext.rfl' w).alloc (.cells #[.int .i64 a,.int .i64 b] 48);have hr:(w.alloc (.cells #[.int .i64 a,.int .i64 b] 48)).heap[w.heap.size]? =some (.cells #[.int .i64 a,.int .i64 b] 48):=by rw[Z3,if_pos rfl]
 go_enter func47,ntmps47;go_wp2_with fail;generalize World.alloc w _=w1 at Ao hr⊢;have q0:=Z0 hr 0;have q1:=Z0 hr 1;simp only[List.getElem?_toArray,List.getElem?_cons_zero,List.getElem?_cons_succ] at q0 q1;have g0:=Zet q0;have g1:=Zet q1;refine ZeG 12 (by kernel_rfl) ?_;refine ZeB [0,1,2,3,4,5,6,7,8,9,10,11] (by kernel_rfl) (by kernel_rfl) ?_;simp only[ZeD,List.getElem?_cons_succ,List.getElem?_cons_zero,List.cons_append,List.nil_append]
 repeat (go_big_quiet_step (fail))
 refine wpQuiet_nil ?_;refine Zf6 (by kernel_rfl) (fun W hW=> ?_);have A7:=Ao.trans hW;go_wp2;go_ret;exact⟨rfl,A7⟩
end Go.Proofs.Tryq
namespace Go.Proofs.Tryq
open Go Go.Nk Go.RowKit
theorem Zh7(b o j:Nat):(⟨b,o,none⟩:Addr).add j=⟨b,o+j,none⟩:=by unfold Addr.add;split<;>simp_all
end Go.Proofs.Tryq
namespace Go.Proofs.Tryq
set_option maxRecDepth 100000
set_option maxHeartbeats 2000000
open Go Go.Nk Go.RowKit
@[go_sem] theorem eq46 (a b c d a' b' c' d':Int) (w:World):(Op.equalIn 10000 46 (.agg #[.int .i64 a,.int .i64 b,.int .i64 c,.int .i64 d]) (.agg #[.int .i64 a',.int .i64 b',.int .i64 c',.int .i64 d'])).run prog w= .ok (a==a'&&b==b'&&c==c'&&d==d') w:=by
  have u3:prog.underlying 3=some (.int .i64):=(underlying_eq 3).trans Tryz.underlying3;have u44:prog.underlying 44=some (.int .i64):=(underlying_eq 44).trans Tryz.underlying44;have u30:prog.underlying 30=some (.int .i64):=(underlying_eq 30).trans Tryz.underlying30;have a3:=Tryz.isAgg3;have z3:=Tryz.sizeOf3;have hS:prog.underlying 46=some (.struct (prog.fieldsOf 46)):=by kernel_rfl
  have hp:prog.stoodInHeld 46=false:=by kernel_rfl
  rw[show(10000:Nat)=9999+1 from rfl,run_equalIn_agg w 9999 46 _ _ hS hp];simp only[Program.fieldsOf,underlying_eq,Tryz.underlying46];go_simp;by_cases h1:a=a'<;>by_cases h2:b=b'<;>by_cases h3:c=c'<;>by_cases h4:d=d'<;>simp[h1,h2,h3,h4]
@[go_sem] theorem guard46 (op:BinOp) (p q:Operand) (xs ys:Array Value) (w:World):(eqGuard op 46 p q (.agg xs) (.agg ys)).run prog w= .ok () w:=run_eqGuard_agg w op 46 p q xs ys (by kernel_rfl)
def apB(x y:Ap):Bool:=x.p==y.p&&x.q==y.q&&(x.k:Int)==(y.k:Int)&&x.s==y.s
def apsB:List Ap->List Ap->Bool
 |[],[]=>true
 |x::l,y::k=>apB x y&&apsB l k
 |_,_=>false
theorem Z67{l k:List Ap}{i:Nat}{x y:Ap}(hx:l[i]? =some x)(hy:k[i]? =some y):apsB (l.drop i) (k.drop i)=(apB x y&&apsB (l.drop (i+1)) (k.drop (i+1))):=by rw[Z0b hx,Z0b hy];rfl
theorem apsB_len:∀{l k:List Ap},l.length≠k.length->apsB l k=false
 |[],[],h=>absurd rfl h
 |[],_::_,_=>rfl
 |_::_,[],_=>rfl
 |x::l,y::k,h=>by rw[apsB,apsB_len (l:=l) (k:=k) (by simpa using h),Bool.and_false]
def RawAp(w:World)(base:Option Addr)(A:List Ap):Prop:=∀(i:Nat)(x:Ap),A[i]? =some x->∃b off,base=some ⟨b,off,none⟩/\b<w.heap.size/\(w.cell? ⟨b,off+i*4,none⟩=some (.int .i64 x.p)/\w.cell? ⟨b,off+i*4+1,none⟩=some (.int .i64 x.q)/\w.cell? ⟨b,off+i*4+2,none⟩=some (.int .i64 x.k)/\w.cell? ⟨b,off+i*4+3,none⟩=some (.int .i64 x.s))
theorem RawAp.ext{w w':World}{base:Option Addr}{A:List Ap}(h:RawAp w base A)(e:Ext w w'):RawAp w' base A:=by
 intro i x hi;obtain⟨b,off,h1,h2,h3,h4,h5,h6⟩:=h i x hi;exact⟨b,off,h1,e.lt h2,e.cellS h3,e.cellS h4,e.cellS h5,e.cellS h6⟩
theorem Z25(a1:Option Addr)(n1 c1:Nat)(l:List Ap)(a2:Option Addr)(n2 c2:Nat)(k:List Ap)(w:World)(h1:l.length=n1)(h2:k.length=n2)(hb:n1<=1000000/\n2<=1000000)(hl:RawAp w a1 l)(hk:RawAp w a2 k):
 Calls prog 29 #[.slice a1 n1 c1,.slice a2 n2 c2] w fun e w'=>e= .returned (.bool (apsB l k))/\Ext w w':=by
 by_cases hn:n1=n2
 ·have H:Hid (apsB l k=apsB (l.drop 0) (k.drop 0)):=rfl;subst hn;obtain⟨n,hn⟩:∃n,n=n1:=⟨_,rfl⟩;subst hn;go_enter func29,ntmps29;go_wp2;go_loopw [5] (fun v wr=>∃i:Nat,i<=n/\v= .int .i64 i/\Ext w wr/\Hid (apsB l k=apsB (l.drop i) (k.drop i))) (fun v _=>n - (intOf v).toNat)
  case atStart=>exact⟨0,Nat.zero_le _,rfl,Ext.rfl' w,H⟩
  case round=>
   obtain⟨i,hi,rfl,hE,hH⟩:=hrel;clear H;by_cases Aj:i=n
   ·subst Aj;have hz:apsB l k=true:=(by rw[hH.out,Z1Z h1,Z1Z h2];rfl);go_wp2;go_ret;exact⟨ZP (a:=true) hz.symm,hE⟩
   ·have A3:i<n:=(by omega);obtain⟨x,hx⟩:∃x,l[i]? =some x:=⟨_,List.getElem?_eq_getElem (by omega)⟩;obtain⟨y,hy⟩:∃y,k[i]? =some y:=⟨_,List.getElem?_eq_getElem (by omega)⟩;obtain⟨ba,oa,rfl,Pf,Fg⟩:=(hl.ext hE) i x hx;obtain⟨bb,ob,rfl,Rm,hyb⟩:=(hk.ext hE) i y hy;have eqAp:(!(x.p==y.p&&x.q==y.q&&(x.k:Int)==(y.k:Int)&&x.s==y.s))= !apB x y:=rfl;go_wp2_with fail;have gz0:=Zet Fg.1;have gz1:=Zet Fg.2.1;have gz2:=Zet Fg.2.2.1;have gz3:=Zet Fg.2.2.2;have gz4:=Zet hyb.1;have gz5:=Zet hyb.2.1;have gz6:=Zet hyb.2.2.1;have gz7:=Zet hyb.2.2.2;refine ZeG 9 (by kernel_rfl) ?_;refine ZeB [0,1,2,3,4,5,6,7,8] (by kernel_rfl) (by kernel_rfl) ?_;simp only[ZeD,List.getElem?_cons_succ,List.getElem?_cons_zero,List.cons_append,List.nil_append]
    repeat (go_big_quiet_step (fail))
    refine wpQuiet_nil ?_;refine Zf6 (by kernel_rfl) (fun W hW=> ?_);have B9:=hW;clear gz0 gz1 gz2 gz3 gz4 gz5 gz6 gz7;have Bu:=hE.trans B9;by_cases Co:apB x y=true
    ·have hb:(!apB x y)=false:=(by simp[Co]);have Ek:Hid (apsB l k=apsB (l.drop (i+1)) (k.drop (i+1))):=(by show _=_;rw[hH.out,Z67 hx hy,Co,Bool.true_and]);rw[hb];clear hb;go_wp2;go_roundw
     case rel=>exact⟨i+1,by omega,by push_cast;rfl,Bu,Ek⟩
     case measure=>simp[intOf];omega
    ·have hb:(!apB x y)=true:=(by simpa using Co);have Ek:apsB l k=false:=(by rw[hH.out,Z67 hx hy,(by simpa using Co:apB x y=false),Bool.false_and]);rw[hb];clear hb;go_wp2;go_ret;exact⟨ZP (a:=false) Ek.symm,Bu⟩
 ·have hz:apsB l k=false:=apsB_len (by omega);have Qh:¬(n1:Int)=(n2:Int):=by omega
  go_enter func29,ntmps29;go_wp2;go_ret;exact⟨ZP (a:=false) hz.symm,Ext.rfl' w⟩
end Go.Proofs.Tryq
namespace Go.Proofs.Tryq
set_option maxRecDepth 100000
set_option maxHeartbeats 4000000
open Go Go.Nk Go.RowKit
theorem Z7J(w:World)(a:Addr)(v:Value):(w.setCell a v).heap.size=w.heap.size:=(Go.Conc.aside_setCell w a v).size
def exL:List Sf:=[⟨⟨#[97]⟩,400,405,700,700,250,252⟩,⟨⟨#[98]⟩,404,408,701,701,251,251⟩,⟨⟨#[99]⟩,398,402,700,701,249,250⟩,⟨⟨#[100]⟩,409,412,700,700,255,255⟩,⟨⟨#[101]⟩,402,402,702,702,252,254⟩,⟨⟨#[102]⟩,405,406,701,702,253,253⟩,⟨⟨#[103]⟩,450,450,700,700,250,250⟩]
def exC:Array Value:=(exL.flatMap fun x=>(sfC x).toList).toArray
theorem exC_eq:exC= #[.string ⟨#[97]⟩,.int .i64 400,.int .i64 405,.int .i64 700,.int .i64 700,.int .i64 250,.int .i64 252,.string ⟨#[98]⟩,.int .i64 404,.int .i64 408,.int .i64 701,.int .i64 701,.int .i64 251,.int .i64 251,.string ⟨#[99]⟩,.int .i64 398,.int .i64 402,.int .i64 700,.int .i64 701,.int .i64 249,.int .i64 250,.string ⟨#[100]⟩,.int .i64 409,.int .i64 412,.int .i64 700,.int .i64 700,.int .i64 255,.int .i64 255,.string ⟨#[101]⟩,.int .i64 402,.int .i64 402,.int .i64 702,.int .i64 702,.int .i64 252,.int .i64 254,.string ⟨#[102]⟩,.int .i64 405,.int .i64 406,.int .i64 701,.int .i64 702,.int .i64 253,.int .i64 253,.string ⟨#[103]⟩,.int .i64 450,.int .i64 450,.int .i64 700,.int .i64 700,.int .i64 250,.int .i64 250]:=by rfl
theorem Z6U(w:World):Calls prog 84 #[] w fun e w'=>∃B,e= .returned (.agg #[.int .i64 10,.int .i64 2,.int .i64 5,.int .i64 3,.slice (some ⟨B,0,none⟩) 7 7])/\w'.heap[B]? =some (.cells exC 51)/\Ext w w':=by
 have Ci:=Ext.rfl' (w.alloc (.cells #[.int .i64 0,.int .i64 0,.int .i64 0,.int .i64 0,.slice none 0 0] 26));have Cm:(w.alloc (.cells #[.int .i64 0,.int .i64 0,.int .i64 0,.int .i64 0,.slice none 0 0] 26)).heap[w.heap.size]? =some (.cells #[.int .i64 0,.int .i64 0,.int .i64 0,.int .i64 0,.slice none 0 0] 26):=by rw[Z3,if_pos rfl]
 go_enter func84,ntmps84
 go_wp2_with (
  go_at_call 34;refine(Z3P _ _ _).mono ?_;rintro e w2 ⟨rfl,A7⟩
  replace Ci:=Ci.trans A7;clear A7
  (try clear z0 z1 z2 z3 z4 y0 y1 y2 y3 y4 Hn)
  have Hn:=Z5 (Ci.get Cm);have z0:=Z8 (Ci.get Cm) 0;have z1:=Z8 (Ci.get Cm) 1;have z2:=Z8 (Ci.get Cm) 2;have z3:=Z8 (Ci.get Cm) 3;have z4:=Z8 (Ci.get Cm) 4;have y0:=Z0 (Ci.get Cm) 0;have y1:=Z0 (Ci.get Cm) 1;have y2:=Z0 (Ci.get Cm) 2;have y3:=Z0 (Ci.get Cm) 3;have y4:=Z0 (Ci.get Cm) 4;simp only[List.getElem?_toArray,List.getElem?_cons_zero,List.getElem?_cons_succ] at y0 y1 y2 y3 y4)
 have G5:Ext w w2:=((Ext.rfl' w).alloc _).trans Ci;have Bq:=(Zb (Zb (Zb (Zb (Zb (Ci.get Cm) (i:=0) (.int .i64 10)) (i:=1) (.int .i64 2)) (i:=2) (.int .i64 5)) (i:=3) (.int .i64 3)) (i:=4) (.slice (some ⟨w2.heap.size,0,none⟩) 7 7));have Ca:=(((((G5.setCell ⟨w.heap.size,0,none⟩ (.int .i64 10) (Nat.le_refl _)).setCell ⟨w.heap.size,1,none⟩ (.int .i64 2) (Nat.le_refl _)).setCell ⟨w.heap.size,2,none⟩ (.int .i64 5) (Nat.le_refl _)).setCell ⟨w.heap.size,3,none⟩ (.int .i64 3) (Nat.le_refl _)).setCell ⟨w.heap.size,4,none⟩ (.slice (some ⟨w2.heap.size,0,none⟩) 7 7) (Nat.le_refl _));have Hu:w2.heap.size=(((((w2.setCell ⟨w.heap.size,0,none⟩ (.int .i64 10)).setCell ⟨w.heap.size,1,none⟩ (.int .i64 2)).setCell ⟨w.heap.size,2,none⟩ (.int .i64 5)).setCell ⟨w.heap.size,3,none⟩ (.int .i64 3)).setCell ⟨w.heap.size,4,none⟩ (.slice (some ⟨w2.heap.size,0,none⟩) 7 7)).heap.size:=by simp only[Z7J]
 have Kl:w2.heap.size≠w.heap.size:=by omega
 generalize World.setCell _ _ _=w9 at Bq Ca Hu⊢;have D3:=((Ext.rfl' w9).alloc (.cells exC 51)).get Bq;have s0:=Z0 D3 0;have s1:=Z0 D3 1;have s2:=Z0 D3 2;have s3:=Z0 D3 3;have s4:=Z0 D3 4;simp at s0 s1 s2 s3 s4;rw[<-exC_eq];refine bodyPost_ret (v:= .agg #[.int .i64 10,.int .i64 2,.int .i64 5,.int .i64 3,.slice (some ⟨w2.heap.size,0,none⟩) 7 7]) ((Z07 rfl _ _ _).trans ?_) rfl ⟨w2.heap.size,rfl,by rw[Z3,if_pos Hu],Ca.alloc _⟩;simp[go_sem,s0,s1,s2,s3,s4]
def exS:List Rs:=[⟨10,30,32,0,0⟩,⟨20,55,60,0,0⟩,⟨30,96,99,1,1⟩]
def rsC(x:Rs):List Value:=[.int .i64 x.a,.int .i64 x.m,.int .i64 x.M,.int .i64 x.wi,.int .i64 x.li]
def exD:Array Value:=(exS.flatMap rsC).toArray
theorem exD_eq:exD= #[.int .i64 10,.int .i64 30,.int .i64 32,.int .i64 0,.int .i64 0,.int .i64 20,.int .i64 55,.int .i64 60,.int .i64 0,.int .i64 0,.int .i64 30,.int .i64 96,.int .i64 99,.int .i64 1,.int .i64 1]:=by rfl
theorem Zar(w:World):Calls prog 85 #[] w fun e w'=>∃B,e= .returned (.agg #[.int .i64 2,.int .i64 4,.int .i64 1,.int .i64 2,.slice (some ⟨B,0,none⟩) 3 3])/\w'.heap[B]? =some (.cells exD 80)/\Ext w w':=by
 have Ci:=Ext.rfl' (w.alloc (.cells #[.int .i64 0,.int .i64 0,.int .i64 0,.int .i64 0,.slice none 0 0] 70));have Cm:(w.alloc (.cells #[.int .i64 0,.int .i64 0,.int .i64 0,.int .i64 0,.slice none 0 0] 70)).heap[w.heap.size]? =some (.cells #[.int .i64 0,.int .i64 0,.int .i64 0,.int .i64 0,.slice none 0 0] 70):=by rw[Z3,if_pos rfl]
 go_enter func85,ntmps85
 go_wp2_with (
  go_at_call 34;refine(Z3P _ _ _).mono ?_;rintro e w2 ⟨rfl,A7⟩
  replace Ci:=Ci.trans A7;clear A7
  (try clear z0 z1 z2 z3 z4 y0 y1 y2 y3 y4 Hn)
  have Hn:=Z5 (Ci.get Cm);have z0:=Z8 (Ci.get Cm) 0;have z1:=Z8 (Ci.get Cm) 1;have z2:=Z8 (Ci.get Cm) 2;have z3:=Z8 (Ci.get Cm) 3;have z4:=Z8 (Ci.get Cm) 4;have y0:=Z0 (Ci.get Cm) 0;have y1:=Z0 (Ci.get Cm) 1;have y2:=Z0 (Ci.get Cm) 2;have y3:=Z0 (Ci.get Cm) 3;have y4:=Z0 (Ci.get Cm) 4;simp only[List.getElem?_toArray,List.getElem?_cons_zero,List.getElem?_cons_succ] at y0 y1 y2 y3 y4)
 have G5:Ext w w2:=((Ext.rfl' w).alloc _).trans Ci;have Bq:=(Zb (Zb (Zb (Zb (Zb (Ci.get Cm) (i:=0) (.int .i64 2)) (i:=1) (.int .i64 4)) (i:=2) (.int .i64 1)) (i:=3) (.int .i64 2)) (i:=4) (.slice (some ⟨w2.heap.size,0,none⟩) 3 3));have Ca:=(((((G5.setCell ⟨w.heap.size,0,none⟩ (.int .i64 2) (Nat.le_refl _)).setCell ⟨w.heap.size,1,none⟩ (.int .i64 4) (Nat.le_refl _)).setCell ⟨w.heap.size,2,none⟩ (.int .i64 1) (Nat.le_refl _)).setCell ⟨w.heap.size,3,none⟩ (.int .i64 2) (Nat.le_refl _)).setCell ⟨w.heap.size,4,none⟩ (.slice (some ⟨w2.heap.size,0,none⟩) 3 3) (Nat.le_refl _));have Hu:w2.heap.size=(((((w2.setCell ⟨w.heap.size,0,none⟩ (.int .i64 2)).setCell ⟨w.heap.size,1,none⟩ (.int .i64 4)).setCell ⟨w.heap.size,2,none⟩ (.int .i64 1)).setCell ⟨w.heap.size,3,none⟩ (.int .i64 2)).setCell ⟨w.heap.size,4,none⟩ (.slice (some ⟨w2.heap.size,0,none⟩) 3 3)).heap.size:=by simp only[Z7J]
 have Kl:w2.heap.size≠w.heap.size:=by omega
 generalize World.setCell _ _ _=w9 at Bq Ca Hu⊢;have D3:=((Ext.rfl' w9).alloc (.cells exD 80)).get Bq;have s0:=Z0 D3 0;have s1:=Z0 D3 1;have s2:=Z0 D3 2;have s3:=Z0 D3 3;have s4:=Z0 D3 4;simp at s0 s1 s2 s3 s4;rw[<-exD_eq];refine bodyPost_ret (v:= .agg #[.int .i64 2,.int .i64 4,.int .i64 1,.int .i64 2,.slice (some ⟨w2.heap.size,0,none⟩) 3 3]) ((Z07 rfl _ _ _).trans ?_) rfl ⟨w2.heap.size,rfl,by rw[Z3,if_pos Hu],Ca.alloc _⟩;simp[go_sem,s0,s1,s2,s3,s4]
end Go.Proofs.Tryq
namespace Go.Proofs.Tryq
open Go Go.Nk Go.RowKit
def stkV(B:Nat):Value:= .agg #[.int .i64 10,.int .i64 2,.int .i64 5,.int .i64 3,.slice (some ⟨B,0,none⟩) 7 7]
def ZdA(D n c:Nat):Value:= .agg #[.int .i64 2,.int .i64 4,.int .i64 1,.int .i64 2,.slice (some ⟨D,0,none⟩) n c]
def exS4:List Rs:=exS++[⟨20,70,70,0,0⟩]
theorem v_open0:Zo 10 2 5 3 exL []=0:=by kernel_rfl
theorem v_m1:Z1M 10 2 5 3 exL [0,1,2]=1/\Zo 10 2 5 3 exL [0,1,2]=0:=⟨by kernel_rfl,by kernel_rfl⟩
theorem v_m2:Z1M 10 2 5 3 exL [0,3]=0/\Zo 10 2 5 3 exL [0,3]=0:=⟨by kernel_rfl,by kernel_rfl⟩
theorem v_m3:Z1M 10 2 5 3 exL [0,6]=2/\Zo 10 2 5 3 exL [0,6]=0:=⟨by kernel_rfl,by kernel_rfl⟩
def exA:List Ap:=[⟨0,3,0,0⟩,⟨2,3,0,0⟩,⟨2,3,2,0⟩]
theorem v_ap:apsB (Z0Q 10 2 5 3 exL [0,2,3]) exA=true/\Zo 10 2 5 3 exL [0,2,3]=0/\(Z0Q 10 2 5 3 exL [0,2,3]).length=3:=⟨by kernel_rfl,by kernel_rfl,by kernel_rfl⟩
theorem v_fill:Z66 10 2 5 3 exL=[[0,1,2],[3,4,5]]:=by kernel_rfl
theorem v_left:Z6T 10 2 5 3 exL=[6]:=by rw[Z6T,v_fill];kernel_rfl
theorem v_wot:Z1Y 10 2 5 3 exL 3=1/\Zo 10 2 5 3 exL [3]=0:=⟨by kernel_rfl,by kernel_rfl⟩
theorem v_card:ZC 2 4 1 2 exS=0:=by kernel_rfl
theorem v_card4:ZC 2 4 1 2 exS4=0:=by kernel_rfl
theorem v_wide:Zau 2 4 1 2 exS 2=(93,102)/\Z1e 2 4 1 2 exS 2=0:=⟨by kernel_rfl,by kernel_rfl⟩
theorem v_against:Z1r 2 4 1 2 (exS.map Ze)=0:=by
 have h:=Z6X (Zav v_card) (k:=7) (by decide);rw[Z1r];rw[List.length_map];rw[show((2:Int) ^ exS.length - 1)=((7:Nat):Int) from rfl,h,if_pos (by kernel_rfl)]
theorem ZdB(rs:List Int)(h:firstV (rs++[0,0])=0):firstV (Zy 2 4 1 2 exS rs)=0:=by
 have e:Zy 2 4 1 2 exS rs=0::(rs++[0,0]):=by rw[Zy,v_card,v_against];rfl
 rw[e,firstV,if_pos rfl];exact h
theorem ZaJ(a:Int)(h:Zv a=0):ZA 2 4 1 2 exS a=0:=ZdB _ (by rw[h];rfl)
theorem v_mk1:Zw 2 4 1 2 exS 30=(93,100):=by rw[Zw,if_pos (ZaJ 30 rfl)];kernel_rfl
theorem v_mk2:Zw 2 4 1 2 exS 25=(73,80):=by rw[Zw,if_pos (ZaJ 25 rfl)];kernel_rfl
theorem v_hF(k:Int)(h:Z87 76 k=0):Z8F 2 4 1 2 exS 25 76 k=0:=ZdB _ (by rw[h];rfl)
theorem v_h1:Z6c 2 4 1 2 exS 25 76 4=1:=by rw[Z6c,if_pos (v_hF 4 rfl)];kernel_rfl
theorem v_h2:Z6c 2 4 1 2 exS 25 76 3=0:=by rw[Z6c,if_pos (v_hF 3 rfl)];kernel_rfl
theorem v_best:Z8H 2 4 1 2 exS 25=(76,4):=by rw[Z8H,if_pos (ZaJ 25 rfl)];kernel_rfl
theorem v_widF:Z1O 2 4 1 2 exS 10 30=0:=ZdB _ rfl
theorem v_wid:ZaT 2 4 1 2 exS 10 30=(14,38,48):=by rw[ZaT,if_pos v_widF];kernel_rfl
theorem v_clash:Z7L 2 4 1 2 exS4=[1,3]:=by rw[Zc5 (Zav v_card4)];kernel_rfl
theorem v_trust:Z7M 2 4 1 2 exS4=[0,1,2]:=by rw[Zc6 (Zav v_card4)];kernel_rfl
theorem Z59(l:List Int)(k:Nat)(s:Int)(hl:l.length=k)(hk:k<=100)(h:Z1M 10 2 5 3 exL l=s/\Zo 10 2 5 3 exL l=0)(B:Nat)(ad:Option Addr)(w:World)(hM:Meas w)(hS:RawA w (some ⟨B,0,none⟩) exL)(hI:RawI w ad l):
 Calls prog 23 #[stkV B,.slice ad k k] w fun e w'=>e= .returned (.tuple #[.int .i64 s,.int .i64 0])/\Ext w w':=by
 have h2:=Z5Y 10 2 5 3 (some ⟨B,0,none⟩) 7 7 exL ad k k l w rfl (by decide) hl (Nat.le_refl _) hk hM hS hI;rw[h.1,h.2] at h2;exact h2
theorem Zc9(B:Nat)(ad:Option Addr)(w:World)(hM:Meas w)(hS:RawA w (some ⟨B,0,none⟩) exL)(hI:RawI w ad [0,2,3]):
 Calls prog 27 #[stkV B,.slice ad 3 3] w fun e w'=>∃v,e= .returned (.tuple #[v,.int .i64 0])/\OwnAp w.heap.size w' v (Z0Q 10 2 5 3 exL [0,2,3])/\Ext w w':=by
 have h2:=Z5Z 10 2 5 3 (some ⟨B,0,none⟩) 7 7 exL ad 3 3 [0,2,3] w rfl (by decide) rfl (by decide) (by decide) hM hS hI;rw[v_ap.2.1] at h2;exact h2
theorem ZdC(B:Nat)(w:World)(hM:Meas w)(hS:RawA w (some ⟨B,0,none⟩) exL):
 Calls prog 37 #[stkV B] w fun e w'=>∃v1 v2,e= .returned (.tuple #[v1,v2,.int .i64 0])/\Shr w.heap.size w' v1 [[0,1,2],[3,4,5]]/\OwnI w.heap.size w' v2 [6]/\Ext w w':=by
 have h2:=ZbY 10 2 5 3 (some ⟨B,0,none⟩) 7 7 exL w rfl (by decide) hM hS;rw[v_open0,v_fill,v_left] at h2;exact h2
theorem Z8I(B:Nat)(w:World)(hM:Meas w)(hS:RawA w (some ⟨B,0,none⟩) exL):
 Calls prog 59 #[stkV B,.int .i64 3] w fun e w'=>e= .returned (.tuple #[.int .i64 1,.int .i64 0])/\Ext w w':=by
 have h2:=Z6S 10 2 5 3 (some ⟨B,0,none⟩) 7 7 exL 3 w rfl (by decide) hM hS;rw[v_wot.1,v_wot.2] at h2;exact h2
theorem ZdD(D:Nat)(w:World)(hS:RawS w (some ⟨D,0,none⟩) exS):
 Calls prog 49 #[ZdA D 3 3,.int .i64 2] w fun e w'=>e= .returned (.tuple #[.agg #[.int .i64 93,.int .i64 102],.int .i64 0])/\Ext w w':=by
 have h2:=Z69 2 4 1 2 (some ⟨D,0,none⟩) 3 3 exS 2 w rfl (by decide) hS;rw[v_wide.1,v_wide.2] at h2;exact h2
theorem ZaK(a x y:Int)(h:Zv a=0)(hx:Zw 2 4 1 2 exS a=(x,y))(D:Nat)(w:World)(hS:RawS w (some ⟨D,0,none⟩) exS)(hm:Most w):
 Calls prog 45 #[ZdA D 3 3,.int .i64 a] w fun e w'=>e= .returned (.tuple #[.agg #[.int .i64 x,.int .i64 y],.int .i64 0])/\Ext w w':=by
 have h2:=Z86 2 4 1 2 (some ⟨D,0,none⟩) 3 3 w a exS rfl hS hm;rw[hx,ZaJ a h] at h2;exact h2
theorem ZaL(k s:Int)(h:Z87 76 k=0)(hx:Z6c 2 4 1 2 exS 25 76 k=s)(D:Nat)(w:World)(hS:RawS w (some ⟨D,0,none⟩) exS)(hm:Most w):
 Calls prog 53 #[ZdA D 3 3,.int .i64 25,.int .i64 76,.int .i64 k] w fun e w'=>e= .returned (.tuple #[.int .i64 s,.int .i64 0])/\Ext w w':=by
 have h2:=Zc7 2 4 1 2 (some ⟨D,0,none⟩) 3 3 w 25 76 k exS rfl hS hm;rw[hx,v_hF k h] at h2;exact h2
theorem ZdE(D:Nat)(w:World)(hS:RawS w (some ⟨D,0,none⟩) exS)(hm:Most w):
 Calls prog 51 #[ZdA D 3 3,.int .i64 25] w fun e w'=>e= .returned (.tuple #[.int .i64 76,.int .i64 4,.int .i64 0])/\Ext w w':=by
 have h2:=Zc8 2 4 1 2 (some ⟨D,0,none⟩) 3 3 w 25 exS rfl hS hm;rw[v_best,ZaJ 25 rfl] at h2;exact h2
theorem ZaM(D:Nat)(w:World)(hS:RawS w (some ⟨D,0,none⟩) exS)(hm:Most w):
 Calls prog 52 #[ZdA D 3 3,.int .i64 10,.int .i64 30] w fun e w'=>e= .returned (.tuple #[.int .i64 14,.agg #[.int .i64 38,.int .i64 48],.int .i64 0])/\Ext w w':=by
 have h2:=Z8G 2 4 1 2 (some ⟨D,0,none⟩) 3 3 w 10 30 exS rfl hS hm;rw[v_wid,v_widF] at h2;exact h2
theorem Zca(D c:Nat)(w:World)(hS:RawS w (some ⟨D,0,none⟩) exS4)(hm:Most w)(hd:Deb w):
 Calls prog 66 #[ZdA D 4 c] w fun e w'=>∃v,e= .returned (.tuple #[v,.int .i64 0])/\OwnI w.heap.size w' v [1,3]/\Ext w w':=by
 have h2:=Zas 2 4 1 2 (some ⟨D,0,none⟩) 4 c exS4 w rfl hS hm hd;rw[v_clash,v_card4,if_pos rfl] at h2;exact h2
theorem Zcb(D c:Nat)(w:World)(hS:RawS w (some ⟨D,0,none⟩) exS4)(hm:Most w)(hd:Deb w):
 Calls prog 68 #[ZdA D 4 c] w fun e w'=>∃v,e= .returned (.tuple #[v,.int .i64 0])/\OwnI w.heap.size w' v [0,1,2]/\Ext w w':=by
 have h2:=Zat 2 4 1 2 (some ⟨D,0,none⟩) 4 c exS4 w rfl hS hm hd;rw[v_trust,v_card4,if_pos rfl] at h2;exact h2
theorem Z0V{w:World}{b:Nat}{l:List Int}{C:Array Value}(h:w.heap[b]? =some (.cells C 3))(hC:C.toList=l.map (Value.int .i64)):RawI w (some ⟨b,0,none⟩) l:=by
 intro i y hy;refine⟨b,0,rfl,Z5 h,?_⟩;rw[Z0 h,Nat.zero_add,<-Array.getElem?_toList,hC,List.getElem?_map,hy];rfl
theorem ZdF{w:World}{B:Nat}(h:w.heap[B]? =some (.cells exC 51)):RawA w (some ⟨B,0,none⟩) exL:=by
 intro i x hx;have hi:i<7:=(List.getElem?_eq_some_iff.1 hx).1;refine⟨B,0,rfl,Z5 h,?_,?_⟩
 ·match i,hi with
  |0,_|1,_|2,_|3,_|4,_|5,_|6,_=>
   obtain rfl:=Option.some.inj hx;exact⟨by rw[Z0 h];rfl,by rw[Z0 h];rfl,by rw[Z0 h];rfl,by rw[Z0 h];rfl,by rw[Z0 h];rfl,by rw[Z0 h];rfl,by rw[Z0 h];rfl⟩
 ·match i,hi with
  |0,_|1,_|2,_|3,_|4,_|5,_|6,_=>
   obtain rfl:=Option.some.inj hx;decide
theorem Z6Y{w:World}{B:Nat}{L:List Rs}{C:Array Value}(h:w.heap[B]? =some (.cells C 80))(hC:C.toList.take (L.length*5)=L.flatMap rsC):RawS w (some ⟨B,0,none⟩) L:=by
 have key:∀(L:List Rs)(i j:Nat)(x:Rs),L[i]? =some x->j<5->(L.flatMap rsC)[i*5+j]? =(rsC x)[j]? :=by
  intro L
  induction L with
  |nil=>intro i j x h;simp at h
  |cons y L ih=>
   intro i j x hx hj;rw[List.flatMap_cons];have hl:(rsC y).length=5:=rfl;cases i with
   |zero=>
    simp at hx;subst hx;rw[List.getElem?_append_left (by omega)];simp
   |succ i=>
    rw[List.getElem?_append_right (by omega),hl,show(i+1)*5+j - 5=i*5+j by omega];exact ih i j x (by simpa using hx) hj
 intro i x hx;have hi:i<L.length:=(List.getElem?_eq_some_iff.1 hx).1;have hc:∀j,j<5->w.cell? ⟨B,0+i*5+j,none⟩=(rsC x)[j]? :=by
  intro j hj;rw[Z0 h,Nat.zero_add,<-Array.getElem?_toList,<-key L i j x hx hj,<-hC,List.getElem?_take,if_pos (by omega)]
 exact⟨B,0,rfl,Z5 h,hc 0 (by omega),hc 1 (by omega),hc 2 (by omega),hc 3 (by omega),hc 4 (by omega)⟩
end Go.Proofs.Tryq
