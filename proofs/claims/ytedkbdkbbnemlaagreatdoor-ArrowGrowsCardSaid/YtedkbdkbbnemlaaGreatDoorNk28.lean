import Derived.Test.YtedkbdkbbnemlaaGreatDoorNk27
import Derived.ArgAppend
set_option linter.all false
namespace Go.Proofs.Tryq
set_option maxRecDepth 100000
set_option maxHeartbeats 4000000
open Go Go.Nk Go.RowKit
def bestV(x:Int×Int):Int×Int:=(wrap64 (x.2 - wrap64 ((wrap64 (wrap64 (x.2 - x.1)+1)).tdiv 2)),wrap64 ((wrap64 (wrap64 (x.2 - x.1)+1)).tdiv 2))
def Z8H(r0 r1 r2 r3:Int)(S:List Rs)(a:Int):Int×Int:=if markF r0 r1 r2 r3 S a=0 then bestV (Z4L r0 r1 r2 r3 S a) else(0,0)
theorem Zc8(r0 r1 r2 r3:Int)(base:Option Addr)(n cap:Nat)(w:World)(at':Int)(S:List Rs)(A1:S.length=n)(hS:RawS w base S)(Ce:Most w):
 Calls prog 51 #[.agg #[.int .i64 r0,.int .i64 r1,.int .i64 r2,.int .i64 r3,.slice base n cap],.int .i64 at'] w fun e w'=>
  e= .returned (.tuple #[.int .i64 (Z8H r0 r1 r2 r3 S at').1,.int .i64 (Z8H r0 r1 r2 r3 S at').2,.int .i64 (markF r0 r1 r2 r3 S at')])/\Ext w w':=by
 go_enter func51,ntmps51;go_wp2_with fail;have Ab:Ext w _:=(Ext.rfl' w).alloc (.cells #[.int .i64 r0,.int .i64 r1,.int .i64 r2,.int .i64 r3,.slice base n cap] 70);have hb:(w.alloc (.cells #[.int .i64 r0,.int .i64 r1,.int .i64 r2,.int .i64 r3,.slice base n cap] 70)).heap[w.heap.size]? =some (.cells #[.int .i64 r0,.int .i64 r1,.int .i64 r2,.int .i64 r3,.slice base n cap] 70):=by
  simp only[Z3,Z2];rw[if_pos trivial]
 generalize World.alloc _ _=w1 at Ab hb⊢;have hX:=Ext.rfl' w1;have q0:=Z0 hb 0;have q1:=Z0 hb 1;have q2:=Z0 hb 2;have q3:=Z0 hb 3;have q4:=Z0 hb 4;simp only[List.getElem?_toArray,List.getElem?_cons_zero,List.getElem?_cons_succ] at q0 q1 q2 q3 q4;have g0:=Zet q0;have g1:=Zet q1;have g2:=Zet q2;have g3:=Zet q3;have g4:=Zet q4;refine Zfn 9 8 7 [0,1,2,3,4,5,6] (.cells #[.int .i64 0,.int .i64 0,.int .i64 0,.int .i64 0,.slice none 0 0,.slice none 0 0] 146) (by kernel_rfl) rfl (by kernel_rfl) rfl rfl (fun a W=>by simp[go_sem,execOp,Act.eval]) ?_;refine Zfj [0,1] (by kernel_rfl) rfl rfl (by kernel_rfl) ?_;simp only[ZeD,List.getElem?_cons_succ,List.getElem?_cons_zero,List.cons_append,List.nil_append]
 repeat (go_big_quiet_step (fail))
 refine wpQuiet_nil ?_;refine Zfk 2 rfl (by kernel_rfl) rfl (fun W hW=>Zfo (f:=104) (args:= #[.int .i64 at']) (by simp[go_sem,execOp,Act.eval]) ?_);refine(Z9v at' W).mono ?_;rintro e V0 ⟨p0,rfl,hF,D2⟩;refine⟨.func (.func 151) #[] #[.pointer (some ⟨p0,0,none⟩)],rfl,hF,?_⟩;replace hX:=hX.trans (hW.trans hF);clear hF hW;go_simp;refine Zfk 3 rfl (by kernel_rfl) rfl (fun W hW=>Zf3 ⟨.slice (some ⟨W.heap.size,0,none⟩) 1 1,W.alloc (.cells #[.func (.func 151) #[] #[.pointer (some ⟨p0,0,none⟩)]] 127),by simp[go_sem,execOp,Act.eval],(Ext.rfl' W).alloc _,?_⟩);have Bf:=Z30 W #[.func (.func 151) #[] #[.pointer (some ⟨p0,0,none⟩)]] [(151,#[],#[.pointer (some ⟨p0,0,none⟩)])] W.heap.size rfl rfl;have hF:=(hW.alloc (.cells #[.func (.func 151) #[] #[.pointer (some ⟨p0,0,none⟩)]] 127));replace hX:=hX.trans hF;replace D2:=hF.cellS D2;clear hF hW;generalize W.heap.size=B2 at Bf⊢;generalize World.alloc W _=V9 at*;go_simp;refine Zfk 4 rfl (by kernel_rfl) rfl (fun W hW=>Zfo (f:=103) (args:= #[.agg #[.int .i64 r0,.int .i64 r1,.int .i64 r2,.int .i64 r3,.slice base n cap],.slice (some ⟨B2,0,none⟩) 1 1]) (by simp[go_sem,execOp,Act.eval]) ?_)
 refine(Z4K r0 r1 r2 r3 base n cap W 1 B2 (by omega) [(151,#[],#[.pointer (some ⟨p0,0,none⟩)])] [Zv at'] rfl rfl (fun j x hj=>hW.cellS (Bf j x hj)) (by intro x hx args w';simp only[List.mem_cons,List.not_mem_nil,or_false] at hx;rcases hx with rfl<;>simp[go_sem]) (by
       intro j x r hj hr w' hw'
       match j,hj,hr with
       |0,hj,hr=>
        obtain rfl:=Option.some.inj hj;obtain rfl:=Option.some.inj hr;exact Z3x p0 at' w' ((hW.trans hw').cellS D2)) S A1 (hS.ext (Ab.trans (hX.trans hW))) (Ce.ext (Ab.trans (hX.trans hW)))).mono ?_
 rintro e V10 ⟨k0,k1,k2,k3,b4,n4,c4,b5,n5,c5,rfl,hF,C9⟩;refine⟨.tuple #[.agg #[.int .i64 k0,.int .i64 k1,.int .i64 k2,.int .i64 k3,.slice b4 n4 c4,.slice b5 n5 c5],.int .i64 (firstV (Zy r0 r1 r2 r3 S [Zv at']))],rfl,hF,?_⟩;replace hX:=hX.trans (hW.trans hF);have Ao:Askd r0 r1 r2 r3 base n cap S [Zv at'] k0 k1 k2 k3 b4 n4 c4 b5 n5 c5 V10:=fun h=>by obtain⟨B,p,h0,h1,h2,h3,h4,h5,h6,h7,h8,h9,hC,_⟩:=C9 h;exact⟨B,p,h0,h1,h2,h3,h4,h5,h6,h7,h8,h9,hC⟩
 clear hF hW C9 Bf D2;go_simp;refine Zfj [5,6,7] (by kernel_rfl) rfl rfl (by kernel_rfl) ?_;simp only[ZeD,List.getElem?_cons_succ,List.getElem?_cons_zero,List.cons_append,List.nil_append]
 repeat (go_big_quiet_step (fail))
 refine wpQuiet_nil ?_;refine Zfq (by kernel_rfl) (fun W hW b hA C0 Ac=> ?_);have Gj:w1.heap.size<=b:=hA.1.1.1;replace hX:=hX.trans hW;replace Ao:=Ao.ext hW;clear hW;go_simp;refine Zfp 2 (by kernel_rfl) (fun W hW=> ?_);simp only[List.drop_succ_cons,List.drop_zero];replace hX:=hX.trans hW;replace Ao:=Ao.ext hW;replace Ac:=hW.get Ac;have C6:w.heap.size<=b:=by have h1:=Gj;have h2:=Ab.size;omega
 have B3:=Ab.trans hX;clear hA Gj C0 hW hX Ab hb q0 q1 q2 q3 q4 g0 g1 g2 g3 g4;have x0:=Z8 Ac 0;have x1:=Z8 Ac 1;have x2:=Z8 Ac 2;have x3:=Z8 Ac 3;have x4:=Z8 Ac 4;have x5:=Z8 Ac 5;have y0:=Z0 Ac 0;have y1:=Z0 Ac 1;have y2:=Z0 Ac 2;have y3:=Z0 Ac 3;have y4:=Z0 Ac 4;have y5:=Z0 Ac 5;simp only[List.getElem?_toArray,List.getElem?_cons_zero,List.getElem?_cons_succ] at y0 y1 y2 y3 y4 y5;have Aj:=Z0K Ac (.int .i64 k0) (.int .i64 k1) (.int .i64 k2) (.int .i64 k3) (.slice b4 n4 c4) (.slice b5 n5 c5);obtain⟨hX,Dh⟩:=Aj;replace Ao:=Ao.stored Ac Dh;replace B3:=Dh.before B3 C6;go_wp2_with fail;generalize ((((((W.setCell ⟨b,0,none⟩ (.int .i64 k0)).setCell ⟨b,1,none⟩ (.int .i64 k1)).setCell ⟨b,2,none⟩ (.int .i64 k2)).setCell ⟨b,3,none⟩ (.int .i64 k3)).setCell ⟨b,4,none⟩ (.slice b4 n4 c4)).setCell ⟨b,5,none⟩ (.slice b5 n5 c5))=X at hX Ao B3 Dh⊢;clear Dh Ac C6 x0 x1 x2 x3 x4 x5 y0 y1 y2 y3 y4 y5;refine Zfm ?_;go_wp2_with fail
 ·have A8:(firstV (Zy r0 r1 r2 r3 S [Zv at']) !=0)=true:=by assumption
  have Bp:¬markF r0 r1 r2 r3 S at'=0:=by simpa[markF] using A8
  go_ret3;exact⟨by rw[Z8H,if_neg Bp];rfl,B3⟩
 ·have heq:(firstV (Zy r0 r1 r2 r3 S [Zv at']) !=0)=false:=by assumption
  have Bp:firstV (Zy r0 r1 r2 r3 S [Zv at'])=0:=by simpa using heq
  obtain⟨Do,Fo,D3,Nc⟩:=Z11 Bp;obtain⟨_,h8,_⟩:=Z0i Do;have Ch:=Z0N (Fo (Zv at') (by simp));obtain⟨d,rfl⟩:=Int.eq_ofNat_of_zero_le Ch.1;have Eb:d<=90:=by omega
  obtain⟨B,p',e0,e1,e2,e3,e4,e5,e6,e7,e8,e9,hC⟩:=Ao Bp;subst k0 k1 k2 k3 b4 n4 c4 b5 n5 c5;have D0:n<=8:=by omega
  have Ba:=fun v w'=>Z08 r0 r1 r2 r3 base n cap v D0 w'
  have hat:=fun w' hm' hC'=>Z2Y r0 r1 r2 r3 (.slice base n cap) B n d (2 ^ n - 1) p' (cvS r0 r1 r2 r3 (S.map Ze)) D0 Eb (Z2Z D0) w' hm' hC'
  have HV:Hid (Z4L r0 r1 r2 r3 S d=atF (cvS r0 r1 r2 r3 (S.map Ze)) (2 ^ n - 1) d n):=by
   show _=_;rw[Z4L,Int.toNat_natCast,A1]
  have D7:Hid (markF r0 r1 r2 r3 S d=0):=Bp;have Fd:=Ce.ext B3;clear Ao Do Fo D3 Nc heq Bp Ch;generalize (2:Int) ^ n - 1=st at Ba hat HV;generalize atF (cvS r0 r1 r2 r3 (S.map Ze)) st d n=V at hat HV;obtain⟨va,vb⟩:=V;have x0:=Z0 hX 0;have x1:=Z0 hX 1;have x2:=Z0 hX 2;have x3:=Z0 hX 3;have x4:=Z0 hX 4;have x5:=Z0 hX 5;simp only[List.getElem?_toArray,List.getElem?_cons_zero,List.getElem?_cons_succ] at x0 x1 x2 x3 x4 x5;have c0:=Zet x0;have c1:=Zet x1;have c2:=Zet x2;have c3:=Zet x3;have c4:=Zet x4;have c5:=Zet x5;refine Zfn 6 5 8 [0,1,2,3,4] (.cells #[.int .i64 0,.int .i64 0] 48) (by kernel_rfl) rfl (by kernel_rfl) rfl rfl (fun a W=>by simp[go_sem,execOp,Act.eval]) ?_;refine Zfj [0,1,3] (by kernel_rfl) rfl rfl (by kernel_rfl) ?_;simp only[ZeD,List.getElem?_cons_succ,List.getElem?_cons_zero,List.cons_append,List.nil_append]
  repeat (go_big_quiet_step (fail))
  refine wpQuiet_nil ?_;refine Zfr 2 (f:=106) (args:= #[.agg #[.int .i64 r0,.int .i64 r1,.int .i64 r2,.int .i64 r3,.slice base n cap,.slice (some ⟨B,0,none⟩) n n]]) (v:= .int .i64 st) (by kernel_rfl) rfl rfl rfl (by kernel_rfl) rfl (fun W=>by simp[go_sem,execOp,Act.eval]) (fun W _=>Ba _ W) ?_;go_simp;refine Zfr 4 (f:=105) (args:= #[.agg #[.int .i64 r0,.int .i64 r1,.int .i64 r2,.int .i64 r3,.slice base n cap,.slice (some ⟨B,0,none⟩) n n],.int .i64 st,.int .i64 d]) (v:= .agg #[.int .i64 va,.int .i64 vb]) (by kernel_rfl) rfl rfl rfl (by kernel_rfl) rfl (fun W=>by simp[go_sem,execOp,Act.eval]) (fun W hW=>hat W (Fd.ext hW) (hC.ext hW)) ?_;go_simp;refine Zfq (by kernel_rfl) (fun W hW b hA C0 Ac=> ?_);obtain⟨bx,rfl⟩:∃bx,bx=b:=⟨_,rfl⟩;have Am:=hW;clear hW;go_simp;refine Zfp 1 (by kernel_rfl) (fun W hW=> ?_);simp only[List.drop_succ_cons,List.drop_zero];replace Ac:=hW.get Ac;have Bw:=(B3.trans Am).trans hW;have C6:w.heap.size<=bx:=by have h1:=hA;have h2:=B3.size;omega
  have Gz:=set_pair Ac (.int .i64 va) (.int .i64 vb);have K6:=(Bw.setCell ⟨bx,0,none⟩ (.int .i64 va) C6).setCell ⟨bx,1,none⟩ (.int .i64 vb) C6;have g:=Zc Ac;have g0:=g.1;have g1:=g.2.1;have g2:=g.2.2.1;have g3:=g.2.2.2;clear g Bw B3 hW Am C6 hA C0 hC Fd Ba hat hX x0 x1 x2 x3 x4 x5 c0 c1 c2 c3 c4 c5;go_wp2_with fail;generalize (W.setCell ⟨bx,0,none⟩ (.int .i64 va)).setCell ⟨bx,1,none⟩ (.int .i64 vb)=Y at Gz K6⊢;clear g0 g1 g2 g3 Ac;refine Zfm ?_;have g:=Zc Gz;have g0:=g.1;have g1:=g.2.1;have g2:=g.2.2.1;have g3:=g.2.2.2;go_wp2;go_ret3;exact⟨by rw[Z8H,if_pos D7.out,D7.out,HV.out];rfl,K6⟩
end Go.Proofs.Tryq
namespace Go.Proofs.Tryq
open Go Go.Nk Go.RowKit
set_option linter.all false
theorem setL_full_all:(List.range 9).all (fun n=>ZN (2 ^ n - 1)==upL n)=true:=by kernel_rfl
theorem ZfU{n:Nat}(hn:n<=8):ZN (2 ^ n - 1)=upL n:=by
 simpa using List.all_eq_true.1 setL_full_all n (List.mem_range.2 (by omega))
theorem mem_upL{n:Nat}{p:Int}:p∈upL n↔0<=p/\p<n:=by
 simp only[upL,List.mem_map,List.mem_range];constructor
 ·rintro⟨i,h,rfl⟩;omega
 ·intro h;exact⟨p.toNat,by omega,by omega⟩
theorem ZfY(n:Nat):(2:Int) ^ n - 1=((2 ^ n - 1:Nat):Int):=by
 have h1:1<=2 ^ n:=Nat.one_le_two_pow;have h2:((2 ^ n:Nat):Int)=(2:Int) ^ n:=by simp
 omega
structure Fine(r0 r1 r2 r3:Int)(S:List Rs):Prop where
 cf:ZC r0 r1 r2 r3 S=0
 ne:S≠[]
 ft:Z20 r0 r1 r2 r3 S (upL S.length)=true
section
variable {r0 r1 r2 r3:Int} {S:List Rs} (hg:Fine r0 r1 r2 r3 S)
include hg
theorem Fine.ok:CardOk r0 r1 r2 r3 S:=Zav hg.cf
theorem Fine.pf{s t:Rs}(hs:s∈S)(ht:t∈S):Z6W r0 r1 r2 r3 s t:=by
 obtain⟨i,hi⟩:=List.mem_iff_getElem?.1 hs;obtain⟨j,hj⟩:=List.mem_iff_getElem?.1 ht;have h1:=(List.getElem?_eq_some_iff.1 hi).1;have h2:=(List.getElem?_eq_some_iff.1 hj).1;exact(Z8D hg.ok (fun p hp=>mem_upL.1 hp)).1 hg.ft i (mem_upL.2 (by omega)) j (mem_upL.2 (by omega)) s t (by simpa using hi) (by simpa using hj)
theorem Fine.le8:S.length<=8:=hg.ok.len
theorem Fine.pos:0<S.length:=List.length_pos_iff.2 hg.ne
theorem Fine.up_ne:upL S.length≠[]:=by
 have:=hg.pos;exact List.ne_nil_of_mem (mem_upL.2 (show(0:Int)<=0/\(0:Int)<S.length by omega))
theorem Fine.mark_span{d:Int}(hd:0<=d/\d<=90):Z4L r0 r1 r2 r3 S d=Z57 r0 r1 r2 r3 S d (upL S.length):=by
 have hf:=ZfU hg.le8;have h1:1<=2 ^ S.length:=Nat.one_le_two_pow;have:=ZaE hg.ok (k:=2 ^ S.length - 1) (by omega) (by rw[hf];exact hg.up_ne) (d:=d.toNat) (by omega);rw[hf,Int.toNat_of_nonneg hd.1] at this;rw[Z4L,ZfY,this]
theorem Fine.fromS{d:Int}(hd:0<=d/\d<=90){i:Nat}{s:Rs}(hs:S[i]? =some s):fromS r0 r1 r2 r3 S d i=spV r0 r1 r2 r3 s d:=by
 simp only[Tryq.fromS,Int.toNat_natCast,hs];exact Zax hg.ok (List.mem_of_getElem? hs) hd
theorem Fine.lo{d:Int}(hd:0<=d/\d<=90){x:Int}:(Z4L r0 r1 r2 r3 S d).1<=x↔∀s∈S,(spV r0 r1 r2 r3 s d).1<=x:=by
 rw[hg.mark_span hd,ZaD hg.up_ne];constructor
 ·intro h s hs;obtain⟨i,hi⟩:=List.mem_iff_getElem?.1 hs;have h1:=(List.getElem?_eq_some_iff.1 hi).1;have:=h i (mem_upL.2 (by omega))
  rwa [hg.fromS hd hi] at this
 ·intro h j hj;have hj:=mem_upL.1 hj;obtain⟨J,rfl⟩:=Int.eq_ofNat_of_zero_le hj.1;obtain⟨s,hs⟩:∃s,S[J]? =some s:=⟨_,List.getElem?_eq_getElem (by omega)⟩;rw[hg.fromS hd hs];exact h s (List.mem_of_getElem? hs)
theorem Fine.hi{d:Int}(hd:0<=d/\d<=90){x:Int}:x<=(Z4L r0 r1 r2 r3 S d).2↔∀s∈S,x<=(spV r0 r1 r2 r3 s d).2:=by
 rw[hg.mark_span hd,Z6V hg.up_ne];constructor
 ·intro h s hs;obtain⟨i,hi⟩:=List.mem_iff_getElem?.1 hs;have h1:=(List.getElem?_eq_some_iff.1 hi).1;have:=h i (mem_upL.2 (by omega))
  rwa [hg.fromS hd hi] at this
 ·intro h j hj;have hj:=mem_upL.1 hj;obtain⟨J,rfl⟩:=Int.eq_ofNat_of_zero_le hj.1;obtain⟨s,hs⟩:∃s,S[J]? =some s:=⟨_,List.getElem?_eq_getElem (by omega)⟩;rw[hg.fromS hd hs];exact h s (List.mem_of_getElem? hs)
theorem Fine.le{d:Int}(hd:0<=d/\d<=90):(Z4L r0 r1 r2 r3 S d).1<=(Z4L r0 r1 r2 r3 S d).2:=by
 rw[hg.lo hd];intro s hs;rw[hg.hi hd];intro t ht;have h1:=Zcv hg.ok s t d;have h2:=hg.pf hs ht;unfold Z6W at h2;omega
theorem Fine.inB{d:Int}(hd:0<=d/\d<=90): -1000000<=(Z4L r0 r1 r2 r3 S d).1/\(Z4L r0 r1 r2 r3 S d).2<=1000000:=by
 obtain⟨s,hs⟩:=List.exists_mem_of_ne_nil _ hg.ne;have h1:=(hg.lo hd).1 (Int.le_refl _) s hs;have h2:=(hg.hi hd).1 (Int.le_refl _) s hs;have h3:=Zdy hg.ok hs hd;omega
theorem Fine.against:Z1r r0 r1 r2 r3 (S.map Ze)=0:=by
 have hf:=ZfU hg.le8;have h1:1<=2 ^ S.length:=Nat.one_le_two_pow;have:=Z6X hg.ok (k:=2 ^ S.length - 1) (by omega);rw[hf,hg.ft] at this;rw[Z1r,List.length_map,ZfY,this,if_pos rfl]
theorem Fine.ask{rs:List Int}(h:∀r∈rs,r=0):firstV (Zy r0 r1 r2 r3 S rs)=0:=by
 refine firstV_zero fun i x hx=> ?_
 have:=List.mem_of_getElem? hx;simp only[Zy,List.mem_cons,List.mem_append,List.not_mem_nil,or_false] at this;rcases this with rfl|h1|rfl|rfl
 ·exact hg.cf
 ·exact h x h1
 ·have:=hg.pos;rw[ZdW,if_neg (by omega)]
 ·exact hg.against
omit hg in
theorem ZfS{d:Int}(hd:0<=d/\d<=90):Zv d=0:=by
 simp[Zv,okN,hd.1,hd.2]
theorem Fine.markF{d:Int}(hd:0<=d/\d<=90):markF r0 r1 r2 r3 S d=0:=
 hg.ask (by simpa using ZfS hd)
theorem Fine.markR{d:Int}(hd:0<=d/\d<=90):markR r0 r1 r2 r3 S d=Z4L r0 r1 r2 r3 S d:=if_pos (hg.markF hd)
end
set_option linter.all false
section
variable {r0 r1 r2 r3:Int} {S:List Rs} (hg:Fine r0 r1 r2 r3 S)
include hg
theorem Fine.grows{d e:Int}(hd:0<=d)(Gh:d<=e)(he:e<=90):
 (e - d)*r0<=(Z4L r0 r1 r2 r3 S e).1 - (Z4L r0 r1 r2 r3 S d).1/\(Z4L r0 r1 r2 r3 S e).1 - (Z4L r0 r1 r2 r3 S d).1<=(e - d)*r1/\
 (e - d)*r0<=(Z4L r0 r1 r2 r3 S e).2 - (Z4L r0 r1 r2 r3 S d).2/\(Z4L r0 r1 r2 r3 S e).2 - (Z4L r0 r1 r2 r3 S d).2<=(e - d)*r1:=by
 have Q9:0<=d/\d<=90:=by omega
 have G1:0<=e/\e<=90:=by omega
 have a0:=hg.ok.h0;have a1:=hg.ok.h1.1;rw[Int.mul_comm (e - d) r0,Int.mul_comm (e - d) r1];have l1:=(hg.lo Q9 (x:=(Z4L r0 r1 r2 r3 S d).1)).1 (Int.le_refl _);have l2:=(hg.lo G1 (x:=(Z4L r0 r1 r2 r3 S e).1)).1 (Int.le_refl _);have u1:=(hg.hi Q9 (x:=(Z4L r0 r1 r2 r3 S d).2)).1 (Int.le_refl _);have u2:=(hg.hi G1 (x:=(Z4L r0 r1 r2 r3 S e).2)).1 (Int.le_refl _);refine⟨?_,?_,?_,?_⟩
 ·have:(Z4L r0 r1 r2 r3 S d).1<=(Z4L r0 r1 r2 r3 S e).1 - r0*(e - d):=(hg.lo Q9).2 fun s hs=>by
   have h1:=l2 s hs;have h2:=(Zgn (h:=s.m - Z5c r2 r3 s) (c:=s.a) a0 a1 Gh).1;simp only[spV] at h1⊢;omega
  omega
 ·have:(Z4L r0 r1 r2 r3 S e).1<=(Z4L r0 r1 r2 r3 S d).1+r1*(e - d):=(hg.lo G1).2 fun s hs=>by
   have h1:=l1 s hs;have h2:=(Zgn (h:=s.m - Z5c r2 r3 s) (c:=s.a) a0 a1 Gh).2;simp only[spV] at h1⊢;omega
  omega
 ·have:(Z4L r0 r1 r2 r3 S d).2+r0*(e - d)<=(Z4L r0 r1 r2 r3 S e).2:=(hg.hi G1).2 fun s hs=>by
   have h1:=u1 s hs;have h2:=(Z7O (h:=s.M+Z5c r2 r3 s) (c:=s.a) a0 a1 Gh).1;simp only[spV] at h1⊢;omega
  omega
 ·have:(Z4L r0 r1 r2 r3 S e).2 - r1*(e - d)<=(Z4L r0 r1 r2 r3 S d).2:=(hg.hi Q9).2 fun s hs=>by
   have h1:=u2 s hs;have h2:=(Z7O (h:=s.M+Z5c r2 r3 s) (c:=s.a) a0 a1 Gh).2;simp only[spV] at h1⊢;omega
  omega
theorem Fine.narrow{q2 q3:Int}{T:List Rs}(ht:Fine r0 r1 q2 q3 T){d:Int}(hd:0<=d/\d<=90)(h:∀s∈S,∃t∈T,(spV r0 r1 r2 r3 s d).1<=(spV r0 r1 q2 q3 t d).1/\(spV r0 r1 q2 q3 t d).2<=(spV r0 r1 r2 r3 s d).2):
 (Z4L r0 r1 r2 r3 S d).1<=(Z4L r0 r1 q2 q3 T d).1/\(Z4L r0 r1 q2 q3 T d).2<=(Z4L r0 r1 r2 r3 S d).2:=by
 refine⟨(hg.lo hd).2 fun s hs=> ?_,(hg.hi hd).2 fun s hs=> ?_⟩
 ·obtain⟨t,hm,h1,h2⟩:=h s hs;have:=(ht.lo hd).1 (Int.le_refl _) t hm;omega
 ·obtain⟨t,hm,h1,h2⟩:=h s hs;have:=(ht.hi hd).1 (Int.le_refl _) t hm;omega
theorem Fine.narrow_more{x:Rs}(ht:Fine r0 r1 r2 r3 (S++[x])){d:Int}(hd:0<=d/\d<=90):
 (Z4L r0 r1 r2 r3 S d).1<=(Z4L r0 r1 r2 r3 (S++[x]) d).1/\(Z4L r0 r1 r2 r3 (S++[x]) d).2<=(Z4L r0 r1 r2 r3 S d).2:=
 hg.narrow ht hd fun s hs=>⟨s,List.mem_append_left _ hs,Int.le_refl _,Int.le_refl _⟩
omit hg in
def ZiL(s:Rs):Rs:={s with wi:=s.wi / 2,li:=0}
omit hg in
theorem ZiT(h2:0<=r2)(h3:0<=r3){s:Rs}(hw:0<=s.wi)(hl:0<=s.li)(d:Int):
 (spV r0 r1 r2 r3 s d).1<=(spV r0 r1 r2 r3 (ZiL s) d).1/\(spV r0 r1 r2 r3 (ZiL s) d).2<=(spV r0 r1 r2 r3 s d).2:=by
 have h:Z5c r2 r3 (ZiL s)<=Z5c r2 r3 s:=by
  have k1:s.wi / 2*r2<=s.wi*r2:=Int.mul_le_mul_of_nonneg_right (by omega) h2;have k2:0<=s.li*r3:=Int.mul_nonneg hl h3;simp only[Z5c,ZiL,Int.zero_mul];omega
 simp only[spV,Zcu,Zc1,show(ZiL s).a=s.a from rfl,show(ZiL s).m=s.m from rfl,show(ZiL s).M=s.M from rfl];split<;>constructor<;>omega
theorem Fine.narrow_less{k:Nat}{s:Rs}(hs:S[k]? =some s)(ht:Fine r0 r1 r2 r3 (S.set k (ZiL s))){d:Int}(hd:0<=d/\d<=90):
 (Z4L r0 r1 r2 r3 S d).1<=(Z4L r0 r1 r2 r3 (S.set k (ZiL s)) d).1/\(Z4L r0 r1 r2 r3 (S.set k (ZiL s)) d).2<=(Z4L r0 r1 r2 r3 S d).2:=by
 refine hg.narrow ht hd fun x hx=> ?_
 obtain⟨i,hi⟩:=List.mem_iff_getElem?.1 hx;have A3:=(List.getElem?_eq_some_iff.1 hi).1;by_cases J4:k=i
 ·subst J4;rw[hs] at hi;injection hi with e;subst e;have:=hg.ok.ok s hx;refine⟨ZiL s,List.mem_iff_getElem?.2 ⟨k,?_⟩,ZiT hg.ok.h2.1 hg.ok.h3.1 this.2.2.1.1 this.2.2.2.1 d⟩;rw[List.getElem?_set_self A3]
 ·exact⟨x,List.mem_iff_getElem?.2 ⟨i,by rw[List.getElem?_set_ne J4];exact hi⟩,Int.le_refl _,Int.le_refl _⟩
end
set_option linter.all false
theorem Zgj{w:World}{b:Nat}{a0 a1 a2 a3 a4:Value}{t:TypeId}(h:w.heap[b]? =some (.cells #[a0,a1,a2,a3,a4] t)):
 w.cell? ⟨b,0,none⟩=some a0/\w.cell? ⟨b,1,none⟩=some a1/\w.cell? ⟨b,2,none⟩=some a2/\w.cell? ⟨b,3,none⟩=some a3/\w.cell? ⟨b,4,none⟩=some a4:=
 ⟨Z0 h 0,Z0 h 1,Z0 h 2,Z0 h 3,Z0 h 4⟩
def ZiA(s:Rs):List Value:=[.int .i64 s.a,.int .i64 s.m,.int .i64 s.M,.int .i64 s.wi,.int .i64 s.li]
def Ziv(S:List Rs):List Value:=S.flatMap ZiA
theorem shotsV_len:∀S:List Rs,(Ziv S).length=S.length*5
 |[]=>rfl
 |s::S=>by
  have:=shotsV_len S;simp only[Ziv,List.flatMap_cons,List.length_append,List.length_cons] at*;rw[this];simp[ZiA];omega
theorem shotsV_at:∀(S:List Rs)(i:Nat)(s:Rs),S[i]? =some s->∀c,c<5->(Ziv S)[i*5+c]? =(ZiA s)[c]?
 |[],i,s,h,c,hc=>by simp at h
 |x::S,0,s,h,c,hc=>by
  obtain rfl:x=s:=by simpa using h
  simp only[Ziv,List.flatMap_cons];rw[List.getElem?_append_left (by simp[ZiA];omega)];simp
 |x::S,i+1,s,h,c,hc=>by
  have ih:=shotsV_at S i s (by simpa using h) c hc;simp only[Ziv,List.flatMap_cons] at*;rw[List.getElem?_append_right (by simp[ZiA];omega),<-ih];congr 1;simp[ZiA];omega
theorem ZiH(S T:List Rs):Ziv (S++T)=Ziv S++Ziv T:=by simp[Ziv]
theorem ZiM(S:List Rs):∀u∈Ziv S,u.oneCell'=true:=by
 intro u hu;obtain⟨s,_,hs⟩:=List.mem_flatMap.1 hu;simp only[ZiA,List.mem_cons,List.not_mem_nil,or_false] at hs;rcases hs with rfl|rfl|rfl|rfl|rfl<;>rfl
theorem Zh7(b o j:Nat):(⟨b,o,none⟩:Addr).add j=⟨b,o+j,none⟩:=by unfold Addr.add;split<;>simp_all
theorem Ziy{w:World}{B O:Nat}{S:List Rs}(h:RawS w (some ⟨B,O,none⟩) S):∀j u,(Ziv S)[j]? =some u->w.cell? ((⟨B,O,none⟩:Addr).add j)=some u:=by
 intro j u hj;have A3:=(List.getElem?_eq_some_iff.1 hj).1;rw[shotsV_len] at A3;have hi:j / 5<S.length:=by omega
 obtain⟨s,hs⟩:∃s,S[j / 5]? =some s:=⟨_,List.getElem?_eq_getElem hi⟩;have h1:=shotsV_at S (j / 5) s hs (j % 5) (Nat.mod_lt _ (by omega));rw[show j / 5*5+j % 5=j by omega,hj] at h1;obtain⟨b,o,e,_,sh⟩:=h _ s hs;obtain⟨rfl,rfl⟩:B=b/\O=o:=by simpa using e
 have e2:(⟨B,O,none⟩:Addr).add j=⟨B,O+j / 5*5+j % 5,none⟩:=by rw[Zh7];congr 1;omega
 rw[e2];have hm:j % 5<5:=Nat.mod_lt _ (by omega);generalize j % 5=c at h1 hm
 match c,hm,h1 with
 |0,_,h1=>simp[ZiA] at h1;rw[h1];exact sh.c0
 |1,_,h1=>simp[ZiA] at h1;rw[h1];exact sh.c1
 |2,_,h1=>simp[ZiA] at h1;rw[h1];exact sh.c2
 |3,_,h1=>simp[ZiA] at h1;rw[h1];exact sh.c3
 |4,_,h1=>simp[ZiA] at h1;rw[h1];exact sh.c4
theorem ZiI{w:World}{B O:Nat}{S:List Rs}(hB:B<w.heap.size)(h:∀j u,(Ziv S)[j]? =some u->w.cell? ⟨B,O+j,none⟩=some u):RawS w (some ⟨B,O,none⟩) S:=by
 intro i s hs;have k:=fun c (hc:c<5) u (hu:(ZiA s)[c]? =some u)=>h (i*5+c) u ((shotsV_at S i s hs c hc).trans hu)
 refine⟨B,O,rfl,hB,?_⟩;have k0:=k 0 (by omega) _ rfl;have k1:=k 1 (by omega) _ rfl;have k2:=k 2 (by omega) _ rfl;have k3:=k 3 (by omega) _ rfl;have k4:=k 4 (by omega) _ rfl;exact⟨k0,k1,k2,k3,k4⟩
end Go.Proofs.Tryq
namespace Go.Proofs.Tryq
set_option maxRecDepth 100000
set_option maxHeartbeats 4000000
open Go Go.Nk Go.RowKit
set_option linter.all false
theorem ZiV(r0 r1 r2 r3:Int)(base:Option Addr)(n cap:Nat)(d a b:Int)(w:World)(f:Int)
 (Bf:∀W,Ext w W->Calls prog 63 #[.agg #[.int .i64 r0,.int .i64 r1,.int .i64 r2,.int .i64 r3,.slice base n cap]] W fun e w'=>e= .returned (.int .i64 f)/\Ext W w')(hf:(f !=0)=true):
 Calls prog 50 #[.agg #[.int .i64 r0,.int .i64 r1,.int .i64 r2,.int .i64 r3,.slice base n cap],.int .i64 d,.agg #[.int .i64 a,.int .i64 b]] w fun e w'=>e= .returned (.bool true)/\Ext w w':=by
 go_enter func50,ntmps50;go_wp2_with fail;have Ab:=((Ext.rfl' w).alloc (.cells #[.int .i64 r0,.int .i64 r1,.int .i64 r2,.int .i64 r3,.slice base n cap] 70)).alloc (.cells #[.int .i64 a,.int .i64 b] 48);have hr:((w.alloc (.cells #[.int .i64 r0,.int .i64 r1,.int .i64 r2,.int .i64 r3,.slice base n cap] 70)).alloc (.cells #[.int .i64 a,.int .i64 b] 48)).heap[w.heap.size]? =some (.cells #[.int .i64 r0,.int .i64 r1,.int .i64 r2,.int .i64 r3,.slice base n cap] 70):=by simp only[Z3,Z2];rw[if_neg (by omega),if_pos trivial]
 have hz:((w.alloc (.cells #[.int .i64 r0,.int .i64 r1,.int .i64 r2,.int .i64 r3,.slice base n cap] 70)).alloc (.cells #[.int .i64 a,.int .i64 b] 48)).heap[w.heap.size+1]? =some (.cells #[.int .i64 a,.int .i64 b] 48):=by simp only[Z3,Z2];rw[if_pos trivial]
 generalize World.alloc _ _=w1 at Ab hr hz⊢;obtain⟨q0,q1,q2,q3,q4⟩:=Zgj hr;have g0:=Zet q0;have g1:=Zet q1;have g2:=Zet q2;have g3:=Zet q3;have g4:=Zet q4;refine ZeG 12 (by kernel_rfl) ?_;refine ZeB [0] (by kernel_rfl) (by kernel_rfl) ?_;simp only[ZeD,List.getElem?_cons_succ,List.getElem?_cons_zero,List.cons_append,List.nil_append]
 repeat (go_big_quiet_step (fail))
 refine wpQuiet_nil ?_;refine ZeX 1 (f:=63) (args:= #[.agg #[.int .i64 r0,.int .i64 r1,.int .i64 r2,.int .i64 r3,.slice base n cap]]) (v:= .int .i64 f) (by kernel_rfl) rfl (by kernel_rfl) rfl (fun W=>by simp[go_sem,execOp,Act.eval]) (fun W hW=>Bf W (Ab.trans hW)) ?_;go_simp;refine ZeB [2,3,4,5,6,7] (by kernel_rfl) (by kernel_rfl) ?_;simp only[ZeD,List.getElem?_cons_succ,List.getElem?_cons_zero,List.cons_append,List.nil_append]
 repeat (go_big_quiet_step (fail))
 refine wpQuiet_nil ?_;refine Zg4 8 (by kernel_rfl) rfl (by kernel_rfl) rfl ?_;go_simp;refine Zg4 9 (by kernel_rfl) rfl (by kernel_rfl) rfl ?_;go_simp;refine ZeB [10,11] (by kernel_rfl) (by kernel_rfl) ?_;simp only[ZeD,List.getElem?_cons_succ,List.getElem?_cons_zero,List.cons_append,List.nil_append]
 repeat (go_big_quiet_step (fail))
 refine wpQuiet_nil ?_;refine Zf6 (by kernel_rfl) (fun W hW=> ?_);have A7:=Ab.trans hW;clear hr hz q0 q1 q2 q3 q4 g0 g1 g2 g3 g4;go_wp2;go_ret;exact⟨rfl,A7⟩
theorem ZiW(r0 r1 r2 r3:Int)(base:Option Addr)(n cap:Nat)(d a b:Int)(w:World)
 (Bf:∀W,Ext w W->Calls prog 63 #[.agg #[.int .i64 r0,.int .i64 r1,.int .i64 r2,.int .i64 r3,.slice base n cap]] W fun e w'=>e= .returned (.int .i64 0)/\Ext W w')
 (Bu:∀W,Ext w W->Calls prog 44 #[.int .i64 n] W fun e w'=>∃x,e= .returned x/\(∃ao cp,x= .slice ao n cp/\RawI w' ao (upL n)/\n<=cp)/\Ext W w')
 (Bn:∀W ao cp,Ext w W->RawI W ao (upL n)->n<=cp->Calls prog 43 #[.agg #[.int .i64 r0,.int .i64 r1,.int .i64 r2,.int .i64 r3,.slice base n cap],.slice ao n cp] W fun e w'=>e= .returned (.bool false)/\Ext W w'):
 Calls prog 50 #[.agg #[.int .i64 r0,.int .i64 r1,.int .i64 r2,.int .i64 r3,.slice base n cap],.int .i64 d,.agg #[.int .i64 a,.int .i64 b]] w fun e w'=>e= .returned (.bool true)/\Ext w w':=by
 go_enter func50,ntmps50;go_wp2_with fail;have Ab:=((Ext.rfl' w).alloc (.cells #[.int .i64 r0,.int .i64 r1,.int .i64 r2,.int .i64 r3,.slice base n cap] 70)).alloc (.cells #[.int .i64 a,.int .i64 b] 48);have hr:((w.alloc (.cells #[.int .i64 r0,.int .i64 r1,.int .i64 r2,.int .i64 r3,.slice base n cap] 70)).alloc (.cells #[.int .i64 a,.int .i64 b] 48)).heap[w.heap.size]? =some (.cells #[.int .i64 r0,.int .i64 r1,.int .i64 r2,.int .i64 r3,.slice base n cap] 70):=by simp only[Z3,Z2];rw[if_neg (by omega),if_pos trivial]
 have hz:((w.alloc (.cells #[.int .i64 r0,.int .i64 r1,.int .i64 r2,.int .i64 r3,.slice base n cap] 70)).alloc (.cells #[.int .i64 a,.int .i64 b] 48)).heap[w.heap.size+1]? =some (.cells #[.int .i64 a,.int .i64 b] 48):=by simp only[Z3,Z2];rw[if_pos trivial]
 generalize World.alloc _ _=w1 at Ab hr hz⊢;obtain⟨q0,q1,q2,q3,q4⟩:=Zgj hr;have g0:=Zet q0;have g1:=Zet q1;have g2:=Zet q2;have g3:=Zet q3;have g4:=Zet q4;refine ZeG 12 (by kernel_rfl) ?_;refine ZeB [0] (by kernel_rfl) (by kernel_rfl) ?_;simp only[ZeD,List.getElem?_cons_succ,List.getElem?_cons_zero,List.cons_append,List.nil_append]
 repeat (go_big_quiet_step (fail))
 refine wpQuiet_nil ?_;refine ZeX 1 (f:=63) (args:= #[.agg #[.int .i64 r0,.int .i64 r1,.int .i64 r2,.int .i64 r3,.slice base n cap]]) (v:= .int .i64 0) (by kernel_rfl) rfl (by kernel_rfl) rfl (fun W=>by simp[go_sem,execOp,Act.eval]) (fun W hW=>Bf W (Ab.trans hW)) ?_;go_simp;refine ZeB [2,3,4,5,6,7] (by kernel_rfl) (by kernel_rfl) ?_;simp only[ZeD,List.getElem?_cons_succ,List.getElem?_cons_zero,List.cons_append,List.nil_append]
 repeat (go_big_quiet_step (fail))
 refine wpQuiet_nil ?_;refine Zfa 8 rfl (by kernel_rfl) rfl (fun W hW=>Zfo (f:=44) (args:= #[.int .i64 n]) (by simp[go_sem,execOp,Act.eval]) ?_);refine(Bu W (Ab.trans hW)).mono ?_;rintro e W2 ⟨x,rfl,hx,Ah⟩;obtain⟨ao,cp,rfl,hI,Ef⟩:=hx;refine⟨.slice ao n cp,rfl,Ah,?_⟩;have Aw:=hW.trans Ah;clear Ah hW;clear W;clear g0 g1 g2 g3 g4 q0 q1 q2 q3 q4;replace hr:=Aw.get hr;replace hz:=Aw.get hz;obtain⟨q0,q1,q2,q3,q4⟩:=Zgj hr;have g0:=Zet q0;have g1:=Zet q1;have g2:=Zet q2;have g3:=Zet q3;have g4:=Zet q4;go_simp;refine ZeX 9 (f:=43) (args:= #[.agg #[.int .i64 r0,.int .i64 r1,.int .i64 r2,.int .i64 r3,.slice base n cap],.slice ao n cp]) (v:= .bool false) (by kernel_rfl) rfl (by kernel_rfl) rfl (fun W=>by simp[go_sem,execOp,Act.eval]) (fun W hW=>Bn W ao cp (Ab.trans (Aw.trans hW)) (hI.ext hW) Ef) ?_;go_simp;refine ZeB [10,11] (by kernel_rfl) (by kernel_rfl) ?_;simp only[ZeD,List.getElem?_cons_succ,List.getElem?_cons_zero,List.cons_append,List.nil_append]
 repeat (go_big_quiet_step (fail))
 refine wpQuiet_nil ?_;refine Zf6 (by kernel_rfl) (fun W hW=> ?_);have A7:=Ab.trans (Aw.trans hW);clear hr hz q0 q1 q2 q3 q4 g0 g1 g2 g3 g4;go_wp2;go_ret;exact⟨rfl,A7⟩
theorem ZiX(r0 r1 r2 r3:Int)(base:Option Addr)(n cap:Nat)(d a b:Int)(w:World)
 (Bf:∀W,Ext w W->Calls prog 63 #[.agg #[.int .i64 r0,.int .i64 r1,.int .i64 r2,.int .i64 r3,.slice base n cap]] W fun e w'=>e= .returned (.int .i64 0)/\Ext W w')
 (Bu:∀W,Ext w W->Calls prog 44 #[.int .i64 n] W fun e w'=>∃x,e= .returned x/\(∃ao cp,x= .slice ao n cp/\RawI w' ao (upL n)/\n<=cp)/\Ext W w')
 (Bn:∀W ao cp,Ext w W->RawI W ao (upL n)->n<=cp->Calls prog 43 #[.agg #[.int .i64 r0,.int .i64 r1,.int .i64 r2,.int .i64 r3,.slice base n cap],.slice ao n cp] W fun e w'=>e= .returned (.bool true)/\Ext W w')
 (x1 x2:Int)(h1:a<=x1)(h2:x2<=b)(hma:∀W,Ext w W->Calls prog 45 #[.agg #[.int .i64 r0,.int .i64 r1,.int .i64 r2,.int .i64 r3,.slice base n cap],.int .i64 d] W fun e w'=>e= .returned (.tuple #[.agg #[.int .i64 x1,.int .i64 x2],.int .i64 0])/\Ext W w'):
 Calls prog 50 #[.agg #[.int .i64 r0,.int .i64 r1,.int .i64 r2,.int .i64 r3,.slice base n cap],.int .i64 d,.agg #[.int .i64 a,.int .i64 b]] w fun e w'=>e= .returned (.bool true)/\Ext w w':=by
 go_enter func50,ntmps50;go_wp2_with fail;have Ab:=((Ext.rfl' w).alloc (.cells #[.int .i64 r0,.int .i64 r1,.int .i64 r2,.int .i64 r3,.slice base n cap] 70)).alloc (.cells #[.int .i64 a,.int .i64 b] 48);have hr:((w.alloc (.cells #[.int .i64 r0,.int .i64 r1,.int .i64 r2,.int .i64 r3,.slice base n cap] 70)).alloc (.cells #[.int .i64 a,.int .i64 b] 48)).heap[w.heap.size]? =some (.cells #[.int .i64 r0,.int .i64 r1,.int .i64 r2,.int .i64 r3,.slice base n cap] 70):=by simp only[Z3,Z2];rw[if_neg (by omega),if_pos trivial]
 have hz:((w.alloc (.cells #[.int .i64 r0,.int .i64 r1,.int .i64 r2,.int .i64 r3,.slice base n cap] 70)).alloc (.cells #[.int .i64 a,.int .i64 b] 48)).heap[w.heap.size+1]? =some (.cells #[.int .i64 a,.int .i64 b] 48):=by simp only[Z3,Z2];rw[if_pos trivial]
 generalize World.alloc _ _=w1 at Ab hr hz⊢;obtain⟨q0,q1,q2,q3,q4⟩:=Zgj hr;have g0:=Zet q0;have g1:=Zet q1;have g2:=Zet q2;have g3:=Zet q3;have g4:=Zet q4;refine ZeG 12 (by kernel_rfl) ?_;refine ZeB [0] (by kernel_rfl) (by kernel_rfl) ?_;simp only[ZeD,List.getElem?_cons_succ,List.getElem?_cons_zero,List.cons_append,List.nil_append]
 repeat (go_big_quiet_step (fail))
 refine wpQuiet_nil ?_;refine ZeX 1 (f:=63) (args:= #[.agg #[.int .i64 r0,.int .i64 r1,.int .i64 r2,.int .i64 r3,.slice base n cap]]) (v:= .int .i64 0) (by kernel_rfl) rfl (by kernel_rfl) rfl (fun W=>by simp[go_sem,execOp,Act.eval]) (fun W hW=>Bf W (Ab.trans hW)) ?_;go_simp;refine ZeB [2,3,4,5,6,7] (by kernel_rfl) (by kernel_rfl) ?_;simp only[ZeD,List.getElem?_cons_succ,List.getElem?_cons_zero,List.cons_append,List.nil_append]
 repeat (go_big_quiet_step (fail))
 refine wpQuiet_nil ?_;refine Zfa 8 rfl (by kernel_rfl) rfl (fun W hW=>Zfo (f:=44) (args:= #[.int .i64 n]) (by simp[go_sem,execOp,Act.eval]) ?_);refine(Bu W (Ab.trans hW)).mono ?_;rintro e W2 ⟨x,rfl,hx,Ah⟩;obtain⟨ao,cp,rfl,hI,Ef⟩:=hx;refine⟨.slice ao n cp,rfl,Ah,?_⟩;have Aw:=hW.trans Ah;clear Ah hW;clear W;clear g0 g1 g2 g3 g4 q0 q1 q2 q3 q4;replace hr:=Aw.get hr;replace hz:=Aw.get hz;obtain⟨q0,q1,q2,q3,q4⟩:=Zgj hr;have g0:=Zet q0;have g1:=Zet q1;have g2:=Zet q2;have g3:=Zet q3;have g4:=Zet q4;go_simp;refine ZeX 9 (f:=43) (args:= #[.agg #[.int .i64 r0,.int .i64 r1,.int .i64 r2,.int .i64 r3,.slice base n cap],.slice ao n cp]) (v:= .bool true) (by kernel_rfl) rfl (by kernel_rfl) rfl (fun W=>by simp[go_sem,execOp,Act.eval]) (fun W hW=>Bn W ao cp (Ab.trans (Aw.trans hW)) (hI.ext hW) Ef) ?_;go_simp;refine ZeB [10,11] (by kernel_rfl) (by kernel_rfl) ?_;simp only[ZeD,List.getElem?_cons_succ,List.getElem?_cons_zero,List.cons_append,List.nil_append]
 repeat (go_big_quiet_step (fail))
 refine wpQuiet_nil ?_;refine Zf6 (by kernel_rfl) (fun W hW=> ?_);have A7:=Ab.trans (Aw.trans hW);replace hr:=hW.get hr;replace hz:=hW.get hz;clear q0 q1 q2 q3 q4 g0 g1 g2 g3 g4 Bf Bu Bn hI Ef Ab Aw hW;obtain⟨q0,q1,q2,q3,q4⟩:=Zgj hr;go_wp2_with (first|(go_at_call 45;(with_reducible refine(hma _ A7).mono ?_);rintro e9 w3 ⟨rfl,hF⟩;replace A7:=A7.trans hF;replace hz:=hF.get hz;clear q0 q1 q2 q3 q4 hF hma hr;have hl:=Z5 hz;have y:=Zc hz;have y0:=y.1;have y1:=y.2.1;clear y));go_ret;exact⟨rfl,A7.alloc _⟩
theorem ZiC(r0 r1 r2 r3:Int)(base:Option Addr)(n cap:Nat)(S:List Rs)(d a b:Int)(w:World)(A1:S.length=n)(hS:RawS w base S)(Ce:Most w)(Jw:n≠0)(hd:0<=d/\d<=90)
 (h:Fine r0 r1 r2 r3 S->a<=(Z4L r0 r1 r2 r3 S d).1/\(Z4L r0 r1 r2 r3 S d).2<=b):
 Calls prog 50 #[.agg #[.int .i64 r0,.int .i64 r1,.int .i64 r2,.int .i64 r3,.slice base n cap],.int .i64 d,.agg #[.int .i64 a,.int .i64 b]] w fun e w'=>e= .returned (.bool true)/\Ext w w':=by
 have Bf:=fun W (hW:Ext w W)=>ZfQ r0 r1 r2 r3 base n cap S W A1 (hS.ext hW)
 by_cases Do:ZC r0 r1 r2 r3 S=0
 ·rw[Do] at Bf;have D0:=(Zav Do).len;rw[A1] at D0;have Bu:∀W,Ext w W->Calls prog 44 #[.int .i64 n] W fun e w'=>∃x,e= .returned x/\(∃ao cp,x= .slice ao n cp/\RawI w' ao (upL n)/\n<=cp)/\Ext W w':=by
   intro W hW;refine(Zg9 n W (by omega)).mono ?_;rintro e w2 ⟨x,rfl,hx,hE⟩;obtain⟨bl,cl,rfl,hI,Gl⟩:=hx.rawI;have hl:(upL n).length=n:=by simp[upL]
   rw[hl] at Gl;exact⟨_,rfl,⟨bl,cl,by rw[hl],hI,Gl⟩,hE⟩
  have Hs:=fun W ao cp (hW:Ext w W)(hI:RawI W ao (upL n))(_:n<=cp)=>Zg2 r0 r1 r2 r3 base n cap S ao n cp (upL n) W A1 (by omega) (by simp[upL]) (by omega) (fun j hj=>mem_upL.1 hj) (hS.ext hW) hI
  cases hq:Z20 r0 r1 r2 r3 S (upL n) with
  |false=>
   simp only[hq] at Hs;exact ZiW r0 r1 r2 r3 base n cap d a b w Bf Bu Hs
  |true=>
   simp only[hq] at Hs;have hg:Fine r0 r1 r2 r3 S:=⟨Do,fun e=>Jw (by rw[<-A1,e];rfl),by rw[A1];exact hq⟩;refine ZiX r0 r1 r2 r3 base n cap d a b w Bf Bu Hs _ _ (h hg).1 (h hg).2 fun W hW=> ?_
   have:=Z86 r0 r1 r2 r3 base n cap W d S A1 (hS.ext hW) (Ce.ext hW);rw[hg.markF hd,hg.markR hd] at this;exact this
 ·exact ZiV r0 r1 r2 r3 base n cap d a b w (ZC r0 r1 r2 r3 S) Bf (bne_iff_ne.2 Do)
end Go.Proofs.Tryq
namespace Go.Proofs.Tryq
set_option maxRecDepth 100000
set_option maxHeartbeats 8000000
open Go Go.Nk Go.RowKit
set_option linter.all false
theorem ZiQ(r0 r1 r2 r3:Int)(base:Option Addr)(n cap:Nat)(u1 u2 xa xm xM xw xl wh:Int)(w:World)
 (Db:∀W,Ext w W->Calls prog 42 #[.agg #[.int .i64 r0,.int .i64 r1,.int .i64 r2,.int .i64 r3,.slice base n cap]] W fun e w'=>e= .returned (.bool false)/\Ext W w')
 (B6:∀W,Ext w W->Calls prog 22 #[] W fun e w'=>e= .returned (.bool true)/\Ext W w'):
 Calls prog 9 #[.agg #[.int .i64 r0,.int .i64 r1,.int .i64 r2,.int .i64 r3,.slice base n cap],.int .u8 u1,.int .u8 u2,.agg #[.int .i64 xa,.int .i64 xm,.int .i64 xM,.int .i64 xw,.int .i64 xl],.int .u8 wh] w fun e w'=>e= .returned (.bool true):=by
 go_enter func9,ntmps9;go_wp2_with fail;have Ab:=((Ext.rfl' w).alloc (.cells #[.int .i64 r0,.int .i64 r1,.int .i64 r2,.int .i64 r3,.slice base n cap] 70)).alloc (.cells #[.int .i64 xa,.int .i64 xm,.int .i64 xM,.int .i64 xw,.int .i64 xl] 80);have hr:((w.alloc (.cells #[.int .i64 r0,.int .i64 r1,.int .i64 r2,.int .i64 r3,.slice base n cap] 70)).alloc (.cells #[.int .i64 xa,.int .i64 xm,.int .i64 xM,.int .i64 xw,.int .i64 xl] 80)).heap[w.heap.size]? =some (.cells #[.int .i64 r0,.int .i64 r1,.int .i64 r2,.int .i64 r3,.slice base n cap] 70):=by simp only[Z3,Z2];rw[if_neg (by omega),if_pos trivial]
 have hx:((w.alloc (.cells #[.int .i64 r0,.int .i64 r1,.int .i64 r2,.int .i64 r3,.slice base n cap] 70)).alloc (.cells #[.int .i64 xa,.int .i64 xm,.int .i64 xM,.int .i64 xw,.int .i64 xl] 80)).heap[w.heap.size+1]? =some (.cells #[.int .i64 xa,.int .i64 xm,.int .i64 xM,.int .i64 xw,.int .i64 xl] 80):=by simp only[Z3,Z2];rw[if_pos trivial]
 generalize World.alloc _ _=w1 at Ab hr hx⊢;obtain⟨q0,q1,q2,q3,q4⟩:=Zgj hr;have g0:=Zet q0;have g1:=Zet q1;have g2:=Zet q2;have g3:=Zet q3;have g4:=Zet q4;refine ZeG 18 (by kernel_rfl) ?_;refine ZeB [0] (by kernel_rfl) (by kernel_rfl) ?_;simp only[ZeD,List.getElem?_cons_succ,List.getElem?_cons_zero,List.cons_append,List.nil_append]
 repeat (go_big_quiet_step (fail))
 refine wpQuiet_nil ?_;refine ZeX 1 (f:=42) (args:= #[.agg #[.int .i64 r0,.int .i64 r1,.int .i64 r2,.int .i64 r3,.slice base n cap]]) (v:= .bool false) (by kernel_rfl) rfl (by kernel_rfl) rfl (fun W=>by simp[go_sem,execOp,Act.eval]) (fun W hW=>Db W (Ab.trans hW)) ?_;go_simp;refine ZeB [2,3,4,5,6,7] (by kernel_rfl) (by kernel_rfl) ?_;simp only[ZeD,List.getElem?_cons_succ,List.getElem?_cons_zero,List.cons_append,List.nil_append]
 repeat (go_big_quiet_step (fail))
 refine wpQuiet_nil ?_;refine Zg4 8 (by kernel_rfl) rfl (by kernel_rfl) rfl ?_;go_simp;refine Zg4 9 (by kernel_rfl) rfl (by kernel_rfl) rfl ?_;go_simp;refine ZeB [10,11,12,13,14,15,16,17] (by kernel_rfl) (by kernel_rfl) ?_;simp only[ZeD,List.getElem?_cons_succ,List.getElem?_cons_zero,List.cons_append,List.nil_append]
 repeat (go_big_quiet_step (fail))
 refine wpQuiet_nil ?_;refine Zf6 (by kernel_rfl) (fun W hW=> ?_);have A7:=Ab.trans hW;clear hr hx q0 q1 q2 q3 q4 g0 g1 g2 g3 g4;go_wp2_with (first|(go_at_call 22;refine(B6 _ A7).mono ?_;rintro e w3 ⟨rfl,Am⟩));go_ret;exact rfl
theorem ZiR(r0 r1 r2 r3:Int)(base:Option Addr)(n cap:Nat)(u1 u2 xa xm xM xw xl wh:Int)(w:World)
 (Db:∀W,Ext w W->Calls prog 42 #[.agg #[.int .i64 r0,.int .i64 r1,.int .i64 r2,.int .i64 r3,.slice base n cap]] W fun e w'=>e= .returned (.bool true)/\Ext W w')
 (Bu:∀W,Ext w W->Calls prog 44 #[.int .i64 n] W fun e w'=>∃x,e= .returned x/\(∃ao cp,x= .slice ao n cp/\RawI w' ao (upL n)/\n<=cp)/\Ext W w')
 (Bn:∀W ao cp,Ext w W->RawI W ao (upL n)->n<=cp->Calls prog 43 #[.agg #[.int .i64 r0,.int .i64 r1,.int .i64 r2,.int .i64 r3,.slice base n cap],.slice ao n cp] W fun e w'=>e= .returned (.bool false)/\Ext W w')
 (B6:∀W,Ext w W->Calls prog 22 #[] W fun e w'=>e= .returned (.bool true)/\Ext W w'):
 Calls prog 9 #[.agg #[.int .i64 r0,.int .i64 r1,.int .i64 r2,.int .i64 r3,.slice base n cap],.int .u8 u1,.int .u8 u2,.agg #[.int .i64 xa,.int .i64 xm,.int .i64 xM,.int .i64 xw,.int .i64 xl],.int .u8 wh] w fun e w'=>e= .returned (.bool true):=by
 go_enter func9,ntmps9;go_wp2_with fail;have Ab:=((Ext.rfl' w).alloc (.cells #[.int .i64 r0,.int .i64 r1,.int .i64 r2,.int .i64 r3,.slice base n cap] 70)).alloc (.cells #[.int .i64 xa,.int .i64 xm,.int .i64 xM,.int .i64 xw,.int .i64 xl] 80);have hr:((w.alloc (.cells #[.int .i64 r0,.int .i64 r1,.int .i64 r2,.int .i64 r3,.slice base n cap] 70)).alloc (.cells #[.int .i64 xa,.int .i64 xm,.int .i64 xM,.int .i64 xw,.int .i64 xl] 80)).heap[w.heap.size]? =some (.cells #[.int .i64 r0,.int .i64 r1,.int .i64 r2,.int .i64 r3,.slice base n cap] 70):=by simp only[Z3,Z2];rw[if_neg (by omega),if_pos trivial]
 have hx:((w.alloc (.cells #[.int .i64 r0,.int .i64 r1,.int .i64 r2,.int .i64 r3,.slice base n cap] 70)).alloc (.cells #[.int .i64 xa,.int .i64 xm,.int .i64 xM,.int .i64 xw,.int .i64 xl] 80)).heap[w.heap.size+1]? =some (.cells #[.int .i64 xa,.int .i64 xm,.int .i64 xM,.int .i64 xw,.int .i64 xl] 80):=by simp only[Z3,Z2];rw[if_pos trivial]
 generalize World.alloc _ _=w1 at Ab hr hx⊢;obtain⟨q0,q1,q2,q3,q4⟩:=Zgj hr;have g0:=Zet q0;have g1:=Zet q1;have g2:=Zet q2;have g3:=Zet q3;have g4:=Zet q4;refine ZeG 18 (by kernel_rfl) ?_;refine ZeB [0] (by kernel_rfl) (by kernel_rfl) ?_;simp only[ZeD,List.getElem?_cons_succ,List.getElem?_cons_zero,List.cons_append,List.nil_append]
 repeat (go_big_quiet_step (fail))
 refine wpQuiet_nil ?_;refine ZeX 1 (f:=42) (args:= #[.agg #[.int .i64 r0,.int .i64 r1,.int .i64 r2,.int .i64 r3,.slice base n cap]]) (v:= .bool true) (by kernel_rfl) rfl (by kernel_rfl) rfl (fun W=>by simp[go_sem,execOp,Act.eval]) (fun W hW=>Db W (Ab.trans hW)) ?_;go_simp;refine ZeB [2,3,4,5,6,7] (by kernel_rfl) (by kernel_rfl) ?_;simp only[ZeD,List.getElem?_cons_succ,List.getElem?_cons_zero,List.cons_append,List.nil_append]
 repeat (go_big_quiet_step (fail))
 refine wpQuiet_nil ?_;refine Zfa 8 rfl (by kernel_rfl) rfl (fun W hW=>Zfo (f:=44) (args:= #[.int .i64 n]) (by simp[go_sem,execOp,Act.eval]) ?_);refine(Bu W (Ab.trans hW)).mono ?_;rintro e W2 ⟨x,rfl,Md,Ah⟩;obtain⟨ao,cp,rfl,hI,Ef⟩:=Md;refine⟨.slice ao n cp,rfl,Ah,?_⟩;have Aw:=hW.trans Ah;clear Ah hW;clear W;clear g0 g1 g2 g3 g4 q0 q1 q2 q3 q4;replace hr:=Aw.get hr;replace hx:=Aw.get hx;obtain⟨q0,q1,q2,q3,q4⟩:=Zgj hr;have g0:=Zet q0;have g1:=Zet q1;have g2:=Zet q2;have g3:=Zet q3;have g4:=Zet q4;go_simp;refine ZeX 9 (f:=43) (args:= #[.agg #[.int .i64 r0,.int .i64 r1,.int .i64 r2,.int .i64 r3,.slice base n cap],.slice ao n cp]) (v:= .bool false) (by kernel_rfl) rfl (by kernel_rfl) rfl (fun W=>by simp[go_sem,execOp,Act.eval]) (fun W hW=>Bn W ao cp (Ab.trans (Aw.trans hW)) (hI.ext hW) Ef) ?_;go_simp;refine ZeB [10,11,12,13,14,15,16,17] (by kernel_rfl) (by kernel_rfl) ?_;simp only[ZeD,List.getElem?_cons_succ,List.getElem?_cons_zero,List.cons_append,List.nil_append]
 repeat (go_big_quiet_step (fail))
 refine wpQuiet_nil ?_;refine Zf6 (by kernel_rfl) (fun W hW=> ?_);have A7:=Ab.trans (Aw.trans hW);clear hr hx q0 q1 q2 q3 q4 g0 g1 g2 g3 g4;go_wp2_with (first|(go_at_call 22;refine(B6 _ A7).mono ?_;rintro e w3 ⟨rfl,Am⟩));go_ret;exact rfl
theorem ZiS(r0 r1 r2 r3:Int)(base:Option Addr)(n cap:Nat)(u1 u2 xa xm xM xw xl wh:Int)(w:World)
 (Db:∀W,Ext w W->Calls prog 42 #[.agg #[.int .i64 r0,.int .i64 r1,.int .i64 r2,.int .i64 r3,.slice base n cap]] W fun e w'=>e= .returned (.bool true)/\Ext W w')
 (Bu:∀W,Ext w W->Calls prog 44 #[.int .i64 n] W fun e w'=>∃x,e= .returned x/\(∃ao cp,x= .slice ao n cp/\RawI w' ao (upL n)/\n<=cp)/\Ext W w')
 (Bn:∀W ao cp,Ext w W->RawI W ao (upL n)->n<=cp->Calls prog 43 #[.agg #[.int .i64 r0,.int .i64 r1,.int .i64 r2,.int .i64 r3,.slice base n cap],.slice ao n cp] W fun e w'=>e= .returned (.bool true)/\Ext W w')
 (Jw:((n:Int)==0)=true)
 (B6:∀W,Ext w W->Calls prog 22 #[] W fun e w'=>e= .returned (.bool true)/\Ext W w'):
 Calls prog 9 #[.agg #[.int .i64 r0,.int .i64 r1,.int .i64 r2,.int .i64 r3,.slice base n cap],.int .u8 u1,.int .u8 u2,.agg #[.int .i64 xa,.int .i64 xm,.int .i64 xM,.int .i64 xw,.int .i64 xl],.int .u8 wh] w fun e w'=>e= .returned (.bool true):=by
 go_enter func9,ntmps9;go_wp2_with fail;have Ab:=((Ext.rfl' w).alloc (.cells #[.int .i64 r0,.int .i64 r1,.int .i64 r2,.int .i64 r3,.slice base n cap] 70)).alloc (.cells #[.int .i64 xa,.int .i64 xm,.int .i64 xM,.int .i64 xw,.int .i64 xl] 80);have hr:((w.alloc (.cells #[.int .i64 r0,.int .i64 r1,.int .i64 r2,.int .i64 r3,.slice base n cap] 70)).alloc (.cells #[.int .i64 xa,.int .i64 xm,.int .i64 xM,.int .i64 xw,.int .i64 xl] 80)).heap[w.heap.size]? =some (.cells #[.int .i64 r0,.int .i64 r1,.int .i64 r2,.int .i64 r3,.slice base n cap] 70):=by simp only[Z3,Z2];rw[if_neg (by omega),if_pos trivial]
 have hx:((w.alloc (.cells #[.int .i64 r0,.int .i64 r1,.int .i64 r2,.int .i64 r3,.slice base n cap] 70)).alloc (.cells #[.int .i64 xa,.int .i64 xm,.int .i64 xM,.int .i64 xw,.int .i64 xl] 80)).heap[w.heap.size+1]? =some (.cells #[.int .i64 xa,.int .i64 xm,.int .i64 xM,.int .i64 xw,.int .i64 xl] 80):=by simp only[Z3,Z2];rw[if_pos trivial]
 generalize World.alloc _ _=w1 at Ab hr hx⊢;obtain⟨q0,q1,q2,q3,q4⟩:=Zgj hr;have g0:=Zet q0;have g1:=Zet q1;have g2:=Zet q2;have g3:=Zet q3;have g4:=Zet q4;refine ZeG 18 (by kernel_rfl) ?_;refine ZeB [0] (by kernel_rfl) (by kernel_rfl) ?_;simp only[ZeD,List.getElem?_cons_succ,List.getElem?_cons_zero,List.cons_append,List.nil_append]
 repeat (go_big_quiet_step (fail))
 refine wpQuiet_nil ?_;refine ZeX 1 (f:=42) (args:= #[.agg #[.int .i64 r0,.int .i64 r1,.int .i64 r2,.int .i64 r3,.slice base n cap]]) (v:= .bool true) (by kernel_rfl) rfl (by kernel_rfl) rfl (fun W=>by simp[go_sem,execOp,Act.eval]) (fun W hW=>Db W (Ab.trans hW)) ?_;go_simp;refine ZeB [2,3,4,5,6,7] (by kernel_rfl) (by kernel_rfl) ?_;simp only[ZeD,List.getElem?_cons_succ,List.getElem?_cons_zero,List.cons_append,List.nil_append]
 repeat (go_big_quiet_step (fail))
 refine wpQuiet_nil ?_;refine Zfa 8 rfl (by kernel_rfl) rfl (fun W hW=>Zfo (f:=44) (args:= #[.int .i64 n]) (by simp[go_sem,execOp,Act.eval]) ?_);refine(Bu W (Ab.trans hW)).mono ?_;rintro e W2 ⟨x,rfl,Md,Ah⟩;obtain⟨ao,cp,rfl,hI,Ef⟩:=Md;refine⟨.slice ao n cp,rfl,Ah,?_⟩;have Aw:=hW.trans Ah;clear Ah hW;clear W;clear g0 g1 g2 g3 g4 q0 q1 q2 q3 q4;replace hr:=Aw.get hr;replace hx:=Aw.get hx;obtain⟨q0,q1,q2,q3,q4⟩:=Zgj hr;have g0:=Zet q0;have g1:=Zet q1;have g2:=Zet q2;have g3:=Zet q3;have g4:=Zet q4;go_simp;refine ZeX 9 (f:=43) (args:= #[.agg #[.int .i64 r0,.int .i64 r1,.int .i64 r2,.int .i64 r3,.slice base n cap],.slice ao n cp]) (v:= .bool true) (by kernel_rfl) rfl (by kernel_rfl) rfl (fun W=>by simp[go_sem,execOp,Act.eval]) (fun W hW=>Bn W ao cp (Ab.trans (Aw.trans hW)) (hI.ext hW) Ef) ?_;go_simp;refine ZeB [10,11,12,13,14,15,16,17] (by kernel_rfl) (by kernel_rfl) ?_;simp only[ZeD,List.getElem?_cons_succ,List.getElem?_cons_zero,List.cons_append,List.nil_append]
 repeat (go_big_quiet_step (fail))
 refine wpQuiet_nil ?_;refine Zf6 (by kernel_rfl) (fun W hW=> ?_);have A7:=Ab.trans (Aw.trans hW);clear hr hx q0 q1 q2 q3 q4 g0 g1 g2 g3 g4;go_wp2_with (first|(go_at_call 22;refine(B6 _ A7).mono ?_;rintro e w3 ⟨rfl,Am⟩));go_ret;exact rfl
end Go.Proofs.Tryq
namespace Go.Proofs.Tryq
set_option maxRecDepth 100000
set_option maxHeartbeats 2000000
open Go Go.Nk Go.RowKit
@[go_sem] theorem eq46 (a b c d a' b' c' d':Int) (w:World):(Op.equalIn 10000 46 (.agg #[.int .i64 a,.int .i64 b,.int .i64 c,.int .i64 d]) (.agg #[.int .i64 a',.int .i64 b',.int .i64 c',.int .i64 d'])).run prog w= .ok (a==a'&&b==b'&&c==c'&&d==d') w:=by
  have u3:prog.underlying 3=some (.int .i64):=(underlying_eq 3).trans Tryz.underlying3;have u44:prog.underlying 44=some (.int .i64):=(underlying_eq 44).trans Tryz.underlying44;have u30:prog.underlying 30=some (.int .i64):=(underlying_eq 30).trans Tryz.underlying30;have a3:=Tryz.isAgg3;have z3:=Tryz.sizeOf3;have hS:prog.underlying 46=some (.struct (prog.fieldsOf 46)):=by kernel_rfl
  have hp:prog.stoodInHeld 46=false:=by kernel_rfl
  rw[show(10000:Nat)=9999+1 from rfl,run_equalIn_agg w 9999 46 _ _ hS hp];simp only[Program.fieldsOf,underlying_eq,Tryz.underlying46];go_simp;by_cases h1:a=a'<;>by_cases h2:b=b'<;>by_cases h3:c=c'<;>by_cases h4:d=d'<;>simp[h1,h2,h3,h4]
@[go_sem] theorem guard46 (op:BinOp) (p q:Operand) (xs ys:Array Value) (w:World):(eqGuard op 46 p q (.agg xs) (.agg ys)).run prog w= .ok () w:=run_eqGuard_agg w op 46 p q xs ys (by kernel_rfl)
def apB(x y:Ap):Bool:=x.p==y.p&&x.q==y.q&&(x.k:Int)==(y.k:Int)&&x.s==y.s
def apsB:List Ap->List Ap->Bool
 |[],[]=>true
 |x::l,y::k=>apB x y&&apsB l k
 |_,_=>false
theorem Z67{l k:List Ap}{i:Nat}{x y:Ap}(hx:l[i]? =some x)(hy:k[i]? =some y):apsB (l.drop i) (k.drop i)=(apB x y&&apsB (l.drop (i+1)) (k.drop (i+1))):=by rw[Z0b hx,Z0b hy];rfl
theorem apsB_len:∀{l k:List Ap},l.length≠k.length->apsB l k=false
 |[],[],h=>absurd rfl h
 |[],_::_,_=>rfl
 |_::_,[],_=>rfl
 |x::l,y::k,h=>by rw[apsB,apsB_len (l:=l) (k:=k) (by simpa using h),Bool.and_false]
def RawAp(w:World)(base:Option Addr)(A:List Ap):Prop:=∀(i:Nat)(x:Ap),A[i]? =some x->∃b off,base=some ⟨b,off,none⟩/\b<w.heap.size/\(w.cell? ⟨b,off+i*4,none⟩=some (.int .i64 x.p)/\w.cell? ⟨b,off+i*4+1,none⟩=some (.int .i64 x.q)/\w.cell? ⟨b,off+i*4+2,none⟩=some (.int .i64 x.k)/\w.cell? ⟨b,off+i*4+3,none⟩=some (.int .i64 x.s))
theorem RawAp.ext{w w':World}{base:Option Addr}{A:List Ap}(h:RawAp w base A)(e:Ext w w'):RawAp w' base A:=by
 intro i x hi;obtain⟨b,off,h1,h2,h3,h4,h5,h6⟩:=h i x hi;exact⟨b,off,h1,e.lt h2,e.cellS h3,e.cellS h4,e.cellS h5,e.cellS h6⟩
theorem Z25(a1:Option Addr)(n1 c1:Nat)(l:List Ap)(a2:Option Addr)(n2 c2:Nat)(k:List Ap)(w:World)(h1:l.length=n1)(h2:k.length=n2)(hb:n1<=1000000/\n2<=1000000)(hl:RawAp w a1 l)(hk:RawAp w a2 k):
 Calls prog 29 #[.slice a1 n1 c1,.slice a2 n2 c2] w fun e w'=>e= .returned (.bool (apsB l k))/\Ext w w':=by
 by_cases hn:n1=n2
 ·have H:Hid (apsB l k=apsB (l.drop 0) (k.drop 0)):=rfl;subst hn;obtain⟨n,hn⟩:∃n,n=n1:=⟨_,rfl⟩;subst hn;go_enter func29,ntmps29;go_wp2;go_loopw [5] (fun v wr=>∃i:Nat,i<=n/\v= .int .i64 i/\Ext w wr/\Hid (apsB l k=apsB (l.drop i) (k.drop i))) (fun v _=>n - (intOf v).toNat)
  case atStart=>exact⟨0,Nat.zero_le _,rfl,Ext.rfl' w,H⟩
  case round=>
   obtain⟨i,hi,rfl,hE,hH⟩:=hrel;clear H;by_cases As:i=n
   ·subst As;have hz:apsB l k=true:=(by rw[hH.out,Z1Z h1,Z1Z h2];rfl);go_wp2;go_ret;exact⟨ZP (a:=true) hz.symm,hE⟩
   ·have A3:i<n:=(by omega);obtain⟨x,hx⟩:∃x,l[i]? =some x:=⟨_,List.getElem?_eq_getElem (by omega)⟩;obtain⟨y,hy⟩:∃y,k[i]? =some y:=⟨_,List.getElem?_eq_getElem (by omega)⟩;obtain⟨ba,oa,rfl,P3,Fj⟩:=(hl.ext hE) i x hx;obtain⟨bb,ob,rfl,R8,hyb⟩:=(hk.ext hE) i y hy;have eqAp:(!(x.p==y.p&&x.q==y.q&&(x.k:Int)==(y.k:Int)&&x.s==y.s))= !apB x y:=rfl;go_wp2_with fail;have gz0:=Zet Fj.1;have gz1:=Zet Fj.2.1;have gz2:=Zet Fj.2.2.1;have gz3:=Zet Fj.2.2.2;have gz4:=Zet hyb.1;have gz5:=Zet hyb.2.1;have gz6:=Zet hyb.2.2.1;have gz7:=Zet hyb.2.2.2;refine ZeG 9 (by kernel_rfl) ?_;refine ZeB [0,1,2,3,4,5,6,7,8] (by kernel_rfl) (by kernel_rfl) ?_;simp only[ZeD,List.getElem?_cons_succ,List.getElem?_cons_zero,List.cons_append,List.nil_append]
    repeat (go_big_quiet_step (fail))
    refine wpQuiet_nil ?_;refine Zf6 (by kernel_rfl) (fun W hW=> ?_);have B3:=hW;clear gz0 gz1 gz2 gz3 gz4 gz5 gz6 gz7;have Bw:=hE.trans B3;by_cases Dm:apB x y=true
    ·have hb:(!apB x y)=false:=(by simp[Dm]);have Fg:Hid (apsB l k=apsB (l.drop (i+1)) (k.drop (i+1))):=(by show _=_;rw[hH.out,Z67 hx hy,Dm,Bool.true_and]);rw[hb];clear hb;go_wp2;go_roundw
     case rel=>exact⟨i+1,by omega,by push_cast;rfl,Bw,Fg⟩
     case measure=>simp[intOf];omega
    ·have hb:(!apB x y)=true:=(by simpa using Dm);have Fg:apsB l k=false:=(by rw[hH.out,Z67 hx hy,(by simpa using Dm:apB x y=false),Bool.false_and]);rw[hb];clear hb;go_wp2;go_ret;exact⟨ZP (a:=false) Fg.symm,Bw⟩
 ·have hz:apsB l k=false:=apsB_len (by omega);have hnn:¬(n1:Int)=(n2:Int):=by omega
  go_enter func29,ntmps29;go_wp2;go_ret;exact⟨ZP (a:=false) hz.symm,Ext.rfl' w⟩
end Go.Proofs.Tryq
namespace Go.Proofs.Tryq
set_option maxRecDepth 100000
set_option maxHeartbeats 4000000
open Go Go.Nk Go.RowKit
theorem Z7J(w:World)(a:Addr)(v:Value):(w.setCell a v).heap.size=w.heap.size:=(Go.Conc.aside_setCell w a v).size
def exL:List Sf:=[⟨⟨#[97]⟩,400,405,700,700,250,252⟩,⟨⟨#[98]⟩,404,408,701,701,251,251⟩,⟨⟨#[99]⟩,398,402,700,701,249,250⟩,⟨⟨#[100]⟩,409,412,700,700,255,255⟩,⟨⟨#[101]⟩,402,402,702,702,252,254⟩,⟨⟨#[102]⟩,405,406,701,702,253,253⟩,⟨⟨#[103]⟩,450,450,700,700,250,250⟩]
def exC:Array Value:=(exL.flatMap fun x=>(sfC x).toList).toArray
theorem exC_eq:exC= #[.string ⟨#[97]⟩,.int .i64 400,.int .i64 405,.int .i64 700,.int .i64 700,.int .i64 250,.int .i64 252,.string ⟨#[98]⟩,.int .i64 404,.int .i64 408,.int .i64 701,.int .i64 701,.int .i64 251,.int .i64 251,.string ⟨#[99]⟩,.int .i64 398,.int .i64 402,.int .i64 700,.int .i64 701,.int .i64 249,.int .i64 250,.string ⟨#[100]⟩,.int .i64 409,.int .i64 412,.int .i64 700,.int .i64 700,.int .i64 255,.int .i64 255,.string ⟨#[101]⟩,.int .i64 402,.int .i64 402,.int .i64 702,.int .i64 702,.int .i64 252,.int .i64 254,.string ⟨#[102]⟩,.int .i64 405,.int .i64 406,.int .i64 701,.int .i64 702,.int .i64 253,.int .i64 253,.string ⟨#[103]⟩,.int .i64 450,.int .i64 450,.int .i64 700,.int .i64 700,.int .i64 250,.int .i64 250]:=by rfl
theorem Z6U(w:World):Calls prog 84 #[] w fun e w'=>∃B,e= .returned (.agg #[.int .i64 10,.int .i64 2,.int .i64 5,.int .i64 3,.slice (some ⟨B,0,none⟩) 7 7])/\w'.heap[B]? =some (.cells exC 51)/\Ext w w':=by
 have Ci:=Ext.rfl' (w.alloc (.cells #[.int .i64 0,.int .i64 0,.int .i64 0,.int .i64 0,.slice none 0 0] 26));have Co:(w.alloc (.cells #[.int .i64 0,.int .i64 0,.int .i64 0,.int .i64 0,.slice none 0 0] 26)).heap[w.heap.size]? =some (.cells #[.int .i64 0,.int .i64 0,.int .i64 0,.int .i64 0,.slice none 0 0] 26):=by rw[Z3,if_pos rfl]
 go_enter func84,ntmps84
 go_wp2_with (
  go_at_call 34;refine(Z3P _ _ _).mono ?_;rintro e w2 ⟨rfl,A7⟩
  replace Ci:=Ci.trans A7;clear A7
  (try clear z0 z1 z2 z3 z4 y0 y1 y2 y3 y4 Hj)
  have Hj:=Z5 (Ci.get Co);have z0:=Z8 (Ci.get Co) 0;have z1:=Z8 (Ci.get Co) 1;have z2:=Z8 (Ci.get Co) 2;have z3:=Z8 (Ci.get Co) 3;have z4:=Z8 (Ci.get Co) 4;have y0:=Z0 (Ci.get Co) 0;have y1:=Z0 (Ci.get Co) 1;have y2:=Z0 (Ci.get Co) 2;have y3:=Z0 (Ci.get Co) 3;have y4:=Z0 (Ci.get Co) 4;simp only[List.getElem?_toArray,List.getElem?_cons_zero,List.getElem?_cons_succ] at y0 y1 y2 y3 y4)
 have E9:Ext w w2:=((Ext.rfl' w).alloc _).trans Ci;have Bq:=(Zb (Zb (Zb (Zb (Zb (Ci.get Co) (i:=0) (.int .i64 10)) (i:=1) (.int .i64 2)) (i:=2) (.int .i64 5)) (i:=3) (.int .i64 3)) (i:=4) (.slice (some ⟨w2.heap.size,0,none⟩) 7 7));have Bh:=(((((E9.setCell ⟨w.heap.size,0,none⟩ (.int .i64 10) (Nat.le_refl _)).setCell ⟨w.heap.size,1,none⟩ (.int .i64 2) (Nat.le_refl _)).setCell ⟨w.heap.size,2,none⟩ (.int .i64 5) (Nat.le_refl _)).setCell ⟨w.heap.size,3,none⟩ (.int .i64 3) (Nat.le_refl _)).setCell ⟨w.heap.size,4,none⟩ (.slice (some ⟨w2.heap.size,0,none⟩) 7 7) (Nat.le_refl _));have Hq:w2.heap.size=(((((w2.setCell ⟨w.heap.size,0,none⟩ (.int .i64 10)).setCell ⟨w.heap.size,1,none⟩ (.int .i64 2)).setCell ⟨w.heap.size,2,none⟩ (.int .i64 5)).setCell ⟨w.heap.size,3,none⟩ (.int .i64 3)).setCell ⟨w.heap.size,4,none⟩ (.slice (some ⟨w2.heap.size,0,none⟩) 7 7)).heap.size:=by simp only[Z7J]
 have Qr:w2.heap.size≠w.heap.size:=by omega
 generalize World.setCell _ _ _=w9 at Bq Bh Hq⊢;have E5:=((Ext.rfl' w9).alloc (.cells exC 51)).get Bq;have s0:=Z0 E5 0;have s1:=Z0 E5 1;have s2:=Z0 E5 2;have s3:=Z0 E5 3;have s4:=Z0 E5 4;simp at s0 s1 s2 s3 s4;rw[<-exC_eq];refine bodyPost_ret (v:= .agg #[.int .i64 10,.int .i64 2,.int .i64 5,.int .i64 3,.slice (some ⟨w2.heap.size,0,none⟩) 7 7]) ((Z07 rfl _ _ _).trans ?_) rfl ⟨w2.heap.size,rfl,by rw[Z3,if_pos Hq],Bh.alloc _⟩;simp[go_sem,s0,s1,s2,s3,s4]
def exS:List Rs:=[⟨10,30,32,0,0⟩,⟨20,55,60,0,0⟩,⟨30,96,99,1,1⟩]
def rsC(x:Rs):List Value:=[.int .i64 x.a,.int .i64 x.m,.int .i64 x.M,.int .i64 x.wi,.int .i64 x.li]
def exD:Array Value:=(exS.flatMap rsC).toArray
theorem exD_eq:exD= #[.int .i64 10,.int .i64 30,.int .i64 32,.int .i64 0,.int .i64 0,.int .i64 20,.int .i64 55,.int .i64 60,.int .i64 0,.int .i64 0,.int .i64 30,.int .i64 96,.int .i64 99,.int .i64 1,.int .i64 1]:=by rfl
theorem Zar(w:World):Calls prog 85 #[] w fun e w'=>∃B,e= .returned (.agg #[.int .i64 2,.int .i64 4,.int .i64 1,.int .i64 2,.slice (some ⟨B,0,none⟩) 3 3])/\w'.heap[B]? =some (.cells exD 80)/\Ext w w':=by
 have Ci:=Ext.rfl' (w.alloc (.cells #[.int .i64 0,.int .i64 0,.int .i64 0,.int .i64 0,.slice none 0 0] 70));have Co:(w.alloc (.cells #[.int .i64 0,.int .i64 0,.int .i64 0,.int .i64 0,.slice none 0 0] 70)).heap[w.heap.size]? =some (.cells #[.int .i64 0,.int .i64 0,.int .i64 0,.int .i64 0,.slice none 0 0] 70):=by rw[Z3,if_pos rfl]
 go_enter func85,ntmps85
 go_wp2_with (
  go_at_call 34;refine(Z3P _ _ _).mono ?_;rintro e w2 ⟨rfl,A7⟩
  replace Ci:=Ci.trans A7;clear A7
  (try clear z0 z1 z2 z3 z4 y0 y1 y2 y3 y4 Hj)
  have Hj:=Z5 (Ci.get Co);have z0:=Z8 (Ci.get Co) 0;have z1:=Z8 (Ci.get Co) 1;have z2:=Z8 (Ci.get Co) 2;have z3:=Z8 (Ci.get Co) 3;have z4:=Z8 (Ci.get Co) 4;have y0:=Z0 (Ci.get Co) 0;have y1:=Z0 (Ci.get Co) 1;have y2:=Z0 (Ci.get Co) 2;have y3:=Z0 (Ci.get Co) 3;have y4:=Z0 (Ci.get Co) 4;simp only[List.getElem?_toArray,List.getElem?_cons_zero,List.getElem?_cons_succ] at y0 y1 y2 y3 y4)
 have E9:Ext w w2:=((Ext.rfl' w).alloc _).trans Ci;have Bq:=(Zb (Zb (Zb (Zb (Zb (Ci.get Co) (i:=0) (.int .i64 2)) (i:=1) (.int .i64 4)) (i:=2) (.int .i64 1)) (i:=3) (.int .i64 2)) (i:=4) (.slice (some ⟨w2.heap.size,0,none⟩) 3 3));have Bh:=(((((E9.setCell ⟨w.heap.size,0,none⟩ (.int .i64 2) (Nat.le_refl _)).setCell ⟨w.heap.size,1,none⟩ (.int .i64 4) (Nat.le_refl _)).setCell ⟨w.heap.size,2,none⟩ (.int .i64 1) (Nat.le_refl _)).setCell ⟨w.heap.size,3,none⟩ (.int .i64 2) (Nat.le_refl _)).setCell ⟨w.heap.size,4,none⟩ (.slice (some ⟨w2.heap.size,0,none⟩) 3 3) (Nat.le_refl _));have Hq:w2.heap.size=(((((w2.setCell ⟨w.heap.size,0,none⟩ (.int .i64 2)).setCell ⟨w.heap.size,1,none⟩ (.int .i64 4)).setCell ⟨w.heap.size,2,none⟩ (.int .i64 1)).setCell ⟨w.heap.size,3,none⟩ (.int .i64 2)).setCell ⟨w.heap.size,4,none⟩ (.slice (some ⟨w2.heap.size,0,none⟩) 3 3)).heap.size:=by simp only[Z7J]
 have Qr:w2.heap.size≠w.heap.size:=by omega
 generalize World.setCell _ _ _=w9 at Bq Bh Hq⊢;have E5:=((Ext.rfl' w9).alloc (.cells exD 80)).get Bq;have s0:=Z0 E5 0;have s1:=Z0 E5 1;have s2:=Z0 E5 2;have s3:=Z0 E5 3;have s4:=Z0 E5 4;simp at s0 s1 s2 s3 s4;rw[<-exD_eq];refine bodyPost_ret (v:= .agg #[.int .i64 2,.int .i64 4,.int .i64 1,.int .i64 2,.slice (some ⟨w2.heap.size,0,none⟩) 3 3]) ((Z07 rfl _ _ _).trans ?_) rfl ⟨w2.heap.size,rfl,by rw[Z3,if_pos Hq],Bh.alloc _⟩;simp[go_sem,s0,s1,s2,s3,s4]
end Go.Proofs.Tryq
