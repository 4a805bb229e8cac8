import Derived.Test.YtedkbdkbbnemlaaGreatDoorNk23
import Derived.Test.YtedkbdkbbnemlaaGreatDoorNk25
import Derived.Laws.NewBlocks
set_option linter.all false
namespace Go.Proofs.Tryq
set_option maxRecDepth 100000
set_option maxHeartbeats 4000000
open Go Go.Nk Go.RowKit
def bestV(x:Int×Int):Int×Int:=(wrap64 (x.2 - wrap64 ((wrap64 (wrap64 (x.2 - x.1)+1)).tdiv 2)),wrap64 ((wrap64 (wrap64 (x.2 - x.1)+1)).tdiv 2))
def Z8H(r0 r1 r2 r3:Int)(S:List Rs)(a:Int):Int×Int:=if markF r0 r1 r2 r3 S a=0 then bestV (Z4L r0 r1 r2 r3 S a) else(0,0)
theorem Zc8(r0 r1 r2 r3:Int)(base:Option Addr)(n cap:Nat)(w:World)(at':Int)(S:List Rs)(A1:S.length=n)(hS:RawS w base S)(D7:Most w):
 Calls prog 51 #[.agg #[.int .i64 r0,.int .i64 r1,.int .i64 r2,.int .i64 r3,.slice base n cap],.int .i64 at'] w fun e w'=>
  e= .returned (.tuple #[.int .i64 (Z8H r0 r1 r2 r3 S at').1,.int .i64 (Z8H r0 r1 r2 r3 S at').2,.int .i64 (markF r0 r1 r2 r3 S at')])/\Ext w w':=by
 go_enter func51,ntmps51;go_wp2_with fail;have Af:Ext w _:=(Ext.rfl' w).alloc (.cells #[.int .i64 r0,.int .i64 r1,.int .i64 r2,.int .i64 r3,.slice base n cap] 70);have hb:(w.alloc (.cells #[.int .i64 r0,.int .i64 r1,.int .i64 r2,.int .i64 r3,.slice base n cap] 70)).heap[w.heap.size]? =some (.cells #[.int .i64 r0,.int .i64 r1,.int .i64 r2,.int .i64 r3,.slice base n cap] 70):=by
  simp only[Z3,Z2];rw[if_pos trivial]
 generalize World.alloc _ _=w1 at Af hb⊢;have hX:=Ext.rfl' w1;have q0:=Z0 hb 0;have q1:=Z0 hb 1;have q2:=Z0 hb 2;have q3:=Z0 hb 3;have q4:=Z0 hb 4;simp only[List.getElem?_toArray,List.getElem?_cons_zero,List.getElem?_cons_succ] at q0 q1 q2 q3 q4;have g0:=Zet q0;have g1:=Zet q1;have g2:=Zet q2;have g3:=Zet q3;have g4:=Zet q4;refine Zfn 9 8 7 [0,1,2,3,4,5,6] (.cells #[.int .i64 0,.int .i64 0,.int .i64 0,.int .i64 0,.slice none 0 0,.slice none 0 0] 146) (by kernel_rfl) rfl (by kernel_rfl) rfl rfl (fun a W=>by simp[go_sem,execOp,Act.eval]) ?_;refine Zfj [0,1] (by kernel_rfl) rfl rfl (by kernel_rfl) ?_;simp only[ZeD,List.getElem?_cons_succ,List.getElem?_cons_zero,List.cons_append,List.nil_append]
 repeat (go_big_quiet_step (fail))
 refine wpQuiet_nil ?_;refine Zfk 2 rfl (by kernel_rfl) rfl (fun W hW=>Zfo (f:=104) (args:= #[.int .i64 at']) (by simp[go_sem,execOp,Act.eval]) ?_);refine(Z9v at' W).mono ?_;rintro e V0 ⟨p0,rfl,hF,Dn⟩;refine⟨.func (.func 151) #[] #[.pointer (some ⟨p0,0,none⟩)],rfl,hF,?_⟩;replace hX:=hX.trans (hW.trans hF);clear hF hW;go_simp;refine Zfk 3 rfl (by kernel_rfl) rfl (fun W hW=>Zf3 ⟨.slice (some ⟨W.heap.size,0,none⟩) 1 1,W.alloc (.cells #[.func (.func 151) #[] #[.pointer (some ⟨p0,0,none⟩)]] 127),by simp[go_sem,execOp,Act.eval],(Ext.rfl' W).alloc _,?_⟩);have C0:=Z30 W #[.func (.func 151) #[] #[.pointer (some ⟨p0,0,none⟩)]] [(151,#[],#[.pointer (some ⟨p0,0,none⟩)])] W.heap.size rfl rfl;have hF:=(hW.alloc (.cells #[.func (.func 151) #[] #[.pointer (some ⟨p0,0,none⟩)]] 127));replace hX:=hX.trans hF;replace Dn:=hF.cellS Dn;clear hF hW;generalize W.heap.size=B2 at C0⊢;generalize World.alloc W _=V9 at*;go_simp;refine Zfk 4 rfl (by kernel_rfl) rfl (fun W hW=>Zfo (f:=103) (args:= #[.agg #[.int .i64 r0,.int .i64 r1,.int .i64 r2,.int .i64 r3,.slice base n cap],.slice (some ⟨B2,0,none⟩) 1 1]) (by simp[go_sem,execOp,Act.eval]) ?_)
 refine(Z4K r0 r1 r2 r3 base n cap W 1 B2 (by omega) [(151,#[],#[.pointer (some ⟨p0,0,none⟩)])] [Zv at'] rfl rfl (fun j x hj=>hW.cellS (C0 j x hj)) (by intro x hx args w';simp only[List.mem_cons,List.not_mem_nil,or_false] at hx;rcases hx with rfl<;>simp[go_sem]) (by
       intro j x r hj hr w' hw'
       match j,hj,hr with
       |0,hj,hr=>
        obtain rfl:=Option.some.inj hj;obtain rfl:=Option.some.inj hr;exact Z3x p0 at' w' ((hW.trans hw').cellS Dn)) S A1 (hS.ext (Af.trans (hX.trans hW))) (D7.ext (Af.trans (hX.trans hW)))).mono ?_
 rintro e V10 ⟨k0,k1,k2,k3,b4,n4,c4,b5,n5,c5,rfl,hF,Cc⟩;refine⟨.tuple #[.agg #[.int .i64 k0,.int .i64 k1,.int .i64 k2,.int .i64 k3,.slice b4 n4 c4,.slice b5 n5 c5],.int .i64 (firstV (Zy r0 r1 r2 r3 S [Zv at']))],rfl,hF,?_⟩;replace hX:=hX.trans (hW.trans hF);have Ar:Askd r0 r1 r2 r3 base n cap S [Zv at'] k0 k1 k2 k3 b4 n4 c4 b5 n5 c5 V10:=fun h=>by obtain⟨B,p,h0,h1,h2,h3,h4,h5,h6,h7,h8,h9,hC,_⟩:=Cc h;exact⟨B,p,h0,h1,h2,h3,h4,h5,h6,h7,h8,h9,hC⟩
 clear hF hW Cc C0 Dn;go_simp;refine Zfj [5,6,7] (by kernel_rfl) rfl rfl (by kernel_rfl) ?_;simp only[ZeD,List.getElem?_cons_succ,List.getElem?_cons_zero,List.cons_append,List.nil_append]
 repeat (go_big_quiet_step (fail))
 refine wpQuiet_nil ?_;refine Zfq (by kernel_rfl) (fun W hW b hA C2 Ad=> ?_);have Gp:w1.heap.size<=b:=hA.1.1.1;replace hX:=hX.trans hW;replace Ar:=Ar.ext hW;clear hW;go_simp;refine Zfp 2 (by kernel_rfl) (fun W hW=> ?_);simp only[List.drop_succ_cons,List.drop_zero];replace hX:=hX.trans hW;replace Ar:=Ar.ext hW;replace Ad:=hW.get Ad;have C6:w.heap.size<=b:=by have h1:=Gp;have h2:=Af.size;omega
 have Az:=Af.trans hX;clear hA Gp C2 hW hX Af hb q0 q1 q2 q3 q4 g0 g1 g2 g3 g4;have x0:=Z8 Ad 0;have x1:=Z8 Ad 1;have x2:=Z8 Ad 2;have x3:=Z8 Ad 3;have x4:=Z8 Ad 4;have x5:=Z8 Ad 5;have y0:=Z0 Ad 0;have y1:=Z0 Ad 1;have y2:=Z0 Ad 2;have y3:=Z0 Ad 3;have y4:=Z0 Ad 4;have y5:=Z0 Ad 5;simp only[List.getElem?_toArray,List.getElem?_cons_zero,List.getElem?_cons_succ] at y0 y1 y2 y3 y4 y5;have Ah:=Z0K Ad (.int .i64 k0) (.int .i64 k1) (.int .i64 k2) (.int .i64 k3) (.slice b4 n4 c4) (.slice b5 n5 c5);obtain⟨hX,Do⟩:=Ah;replace Ar:=Ar.stored Ad Do;replace Az:=Do.before Az C6;go_wp2_with fail;generalize ((((((W.setCell ⟨b,0,none⟩ (.int .i64 k0)).setCell ⟨b,1,none⟩ (.int .i64 k1)).setCell ⟨b,2,none⟩ (.int .i64 k2)).setCell ⟨b,3,none⟩ (.int .i64 k3)).setCell ⟨b,4,none⟩ (.slice b4 n4 c4)).setCell ⟨b,5,none⟩ (.slice b5 n5 c5))=X at hX Ar Az Do⊢;clear Do Ad C6 x0 x1 x2 x3 x4 x5 y0 y1 y2 y3 y4 y5;refine Zfm ?_;go_wp2_with fail
 ·have A8:(firstV (Zy r0 r1 r2 r3 S [Zv at']) !=0)=true:=by assumption
  have Br:¬markF r0 r1 r2 r3 S at'=0:=by simpa[markF] using A8
  go_ret3;exact⟨by rw[Z8H,if_neg Br];rfl,Az⟩
 ·have heq:(firstV (Zy r0 r1 r2 r3 S [Zv at']) !=0)=false:=by assumption
  have Br:firstV (Zy r0 r1 r2 r3 S [Zv at'])=0:=by simpa using heq
  obtain⟨Eo,Fp,Cm,Nb⟩:=Z11 Br;obtain⟨_,h8,_⟩:=Z0i Eo;have Cl:=Z0N (Fp (Zv at') (by simp));obtain⟨d,rfl⟩:=Int.eq_ofNat_of_zero_le Cl.1;have Da:d<=90:=by omega
  obtain⟨B,p',e0,e1,e2,e3,e4,e5,e6,e7,e8,e9,hC⟩:=Ar Br;subst k0 k1 k2 k3 b4 n4 c4 b5 n5 c5;have Ca:n<=8:=by omega
  have Bb:=fun v w'=>Z08 r0 r1 r2 r3 base n cap v Ca w'
  have hat:=fun w' hm' hC'=>Z2Y r0 r1 r2 r3 (.slice base n cap) B n d (2 ^ n - 1) p' (cvS r0 r1 r2 r3 (S.map Ze)) Ca Da (Z2Z Ca) w' hm' hC'
  have HV:Hid (Z4L r0 r1 r2 r3 S d=atF (cvS r0 r1 r2 r3 (S.map Ze)) (2 ^ n - 1) d n):=by
   show _=_;rw[Z4L,Int.toNat_natCast,A1]
  have D5:Hid (markF r0 r1 r2 r3 S d=0):=Br;have Ff:=D7.ext Az;clear Ar Eo Fp Cm Nb heq Br Cl;generalize (2:Int) ^ n - 1=st at Bb hat HV;generalize atF (cvS r0 r1 r2 r3 (S.map Ze)) st d n=V at hat HV;obtain⟨va,vb⟩:=V;have x0:=Z0 hX 0;have x1:=Z0 hX 1;have x2:=Z0 hX 2;have x3:=Z0 hX 3;have x4:=Z0 hX 4;have x5:=Z0 hX 5;simp only[List.getElem?_toArray,List.getElem?_cons_zero,List.getElem?_cons_succ] at x0 x1 x2 x3 x4 x5;have c0:=Zet x0;have c1:=Zet x1;have c2:=Zet x2;have c3:=Zet x3;have c4:=Zet x4;have c5:=Zet x5;refine Zfn 6 5 8 [0,1,2,3,4] (.cells #[.int .i64 0,.int .i64 0] 48) (by kernel_rfl) rfl (by kernel_rfl) rfl rfl (fun a W=>by simp[go_sem,execOp,Act.eval]) ?_;refine Zfj [0,1,3] (by kernel_rfl) rfl rfl (by kernel_rfl) ?_;simp only[ZeD,List.getElem?_cons_succ,List.getElem?_cons_zero,List.cons_append,List.nil_append]
  repeat (go_big_quiet_step (fail))
  refine wpQuiet_nil ?_;refine Zfr 2 (f:=106) (args:= #[.agg #[.int .i64 r0,.int .i64 r1,.int .i64 r2,.int .i64 r3,.slice base n cap,.slice (some ⟨B,0,none⟩) n n]]) (v:= .int .i64 st) (by kernel_rfl) rfl rfl rfl (by kernel_rfl) rfl (fun W=>by simp[go_sem,execOp,Act.eval]) (fun W _=>Bb _ W) ?_;go_simp;refine Zfr 4 (f:=105) (args:= #[.agg #[.int .i64 r0,.int .i64 r1,.int .i64 r2,.int .i64 r3,.slice base n cap,.slice (some ⟨B,0,none⟩) n n],.int .i64 st,.int .i64 d]) (v:= .agg #[.int .i64 va,.int .i64 vb]) (by kernel_rfl) rfl rfl rfl (by kernel_rfl) rfl (fun W=>by simp[go_sem,execOp,Act.eval]) (fun W hW=>hat W (Ff.ext hW) (hC.ext hW)) ?_;go_simp;refine Zfq (by kernel_rfl) (fun W hW b hA C2 Ad=> ?_);obtain⟨bx,rfl⟩:∃bx,bx=b:=⟨_,rfl⟩;have Am:=hW;clear hW;go_simp;refine Zfp 1 (by kernel_rfl) (fun W hW=> ?_);simp only[List.drop_succ_cons,List.drop_zero];replace Ad:=hW.get Ad;have C4:=(Az.trans Am).trans hW;have C6:w.heap.size<=bx:=by have h1:=hA;have h2:=Az.size;omega
  have H2:=set_pair Ad (.int .i64 va) (.int .i64 vb);have K5:=(C4.setCell ⟨bx,0,none⟩ (.int .i64 va) C6).setCell ⟨bx,1,none⟩ (.int .i64 vb) C6;have g:=Zc Ad;have g0:=g.1;have g1:=g.2.1;have g2:=g.2.2.1;have g3:=g.2.2.2;clear g C4 Az hW Am C6 hA C2 hC Ff Bb hat hX x0 x1 x2 x3 x4 x5 c0 c1 c2 c3 c4 c5;go_wp2_with fail;generalize (W.setCell ⟨bx,0,none⟩ (.int .i64 va)).setCell ⟨bx,1,none⟩ (.int .i64 vb)=Y at H2 K5⊢;clear g0 g1 g2 g3 Ad;refine Zfm ?_;have g:=Zc H2;have g0:=g.1;have g1:=g.2.1;have g2:=g.2.2.1;have g3:=g.2.2.2;go_wp2;go_ret3;exact⟨by rw[Z8H,if_pos D5.out,D5.out,HV.out];rfl,K5⟩
end Go.Proofs.Tryq
namespace Go.Proofs.Tryq
open Go Go.Nk Go.RowKit
set_option linter.all false
theorem setL_full_all:(List.range 9).all (fun n=>ZN (2 ^ n - 1)==upL n)=true:=by kernel_rfl
theorem ZfU{n:Nat}(hn:n<=8):ZN (2 ^ n - 1)=upL n:=by
 simpa using List.all_eq_true.1 setL_full_all n (List.mem_range.2 (by omega))
theorem mem_upL{n:Nat}{p:Int}:p∈upL n↔0<=p/\p<n:=by
 simp only[upL,List.mem_map,List.mem_range];constructor
 ·rintro⟨i,h,rfl⟩;omega
 ·intro h;exact⟨p.toNat,by omega,by omega⟩
theorem ZfY(n:Nat):(2:Int) ^ n - 1=((2 ^ n - 1:Nat):Int):=by
 have h1:1<=2 ^ n:=Nat.one_le_two_pow;have h2:((2 ^ n:Nat):Int)=(2:Int) ^ n:=by simp
 omega
structure Fine(r0 r1 r2 r3:Int)(S:List Rs):Prop where
 cf:ZC r0 r1 r2 r3 S=0
 ne:S≠[]
 ft:Z20 r0 r1 r2 r3 S (upL S.length)=true
section
variable {r0 r1 r2 r3:Int} {S:List Rs} (hg:Fine r0 r1 r2 r3 S)
include hg
theorem Fine.ok:CardOk r0 r1 r2 r3 S:=Zav hg.cf
theorem Fine.pf{s t:Rs}(hs:s∈S)(ht:t∈S):Z6W r0 r1 r2 r3 s t:=by
 obtain⟨i,hi⟩:=List.mem_iff_getElem?.1 hs;obtain⟨j,hj⟩:=List.mem_iff_getElem?.1 ht;have h1:=(List.getElem?_eq_some_iff.1 hi).1;have h2:=(List.getElem?_eq_some_iff.1 hj).1;exact(Z8D hg.ok (fun p hp=>mem_upL.1 hp)).1 hg.ft i (mem_upL.2 (by omega)) j (mem_upL.2 (by omega)) s t (by simpa using hi) (by simpa using hj)
theorem Fine.le8:S.length<=8:=hg.ok.len
theorem Fine.pos:0<S.length:=List.length_pos_iff.2 hg.ne
theorem Fine.up_ne:upL S.length≠[]:=by
 have:=hg.pos;exact List.ne_nil_of_mem (mem_upL.2 (show(0:Int)<=0/\(0:Int)<S.length by omega))
theorem Fine.mark_span{d:Int}(hd:0<=d/\d<=90):Z4L r0 r1 r2 r3 S d=Z57 r0 r1 r2 r3 S d (upL S.length):=by
 have hf:=ZfU hg.le8;have h1:1<=2 ^ S.length:=Nat.one_le_two_pow;have:=ZaE hg.ok (k:=2 ^ S.length - 1) (by omega) (by rw[hf];exact hg.up_ne) (d:=d.toNat) (by omega);rw[hf,Int.toNat_of_nonneg hd.1] at this;rw[Z4L,ZfY,this]
theorem Fine.fromS{d:Int}(hd:0<=d/\d<=90){i:Nat}{s:Rs}(hs:S[i]? =some s):fromS r0 r1 r2 r3 S d i=spV r0 r1 r2 r3 s d:=by
 simp only[Tryq.fromS,Int.toNat_natCast,hs];exact Zax hg.ok (List.mem_of_getElem? hs) hd
theorem Fine.lo{d:Int}(hd:0<=d/\d<=90){x:Int}:(Z4L r0 r1 r2 r3 S d).1<=x↔∀s∈S,(spV r0 r1 r2 r3 s d).1<=x:=by
 rw[hg.mark_span hd,ZaD hg.up_ne];constructor
 ·intro h s hs;obtain⟨i,hi⟩:=List.mem_iff_getElem?.1 hs;have h1:=(List.getElem?_eq_some_iff.1 hi).1;have:=h i (mem_upL.2 (by omega))
  rwa [hg.fromS hd hi] at this
 ·intro h j hj;have hj:=mem_upL.1 hj;obtain⟨J,rfl⟩:=Int.eq_ofNat_of_zero_le hj.1;obtain⟨s,hs⟩:∃s,S[J]? =some s:=⟨_,List.getElem?_eq_getElem (by omega)⟩;rw[hg.fromS hd hs];exact h s (List.mem_of_getElem? hs)
theorem Fine.hi{d:Int}(hd:0<=d/\d<=90){x:Int}:x<=(Z4L r0 r1 r2 r3 S d).2↔∀s∈S,x<=(spV r0 r1 r2 r3 s d).2:=by
 rw[hg.mark_span hd,Z6V hg.up_ne];constructor
 ·intro h s hs;obtain⟨i,hi⟩:=List.mem_iff_getElem?.1 hs;have h1:=(List.getElem?_eq_some_iff.1 hi).1;have:=h i (mem_upL.2 (by omega))
  rwa [hg.fromS hd hi] at this
 ·intro h j hj;have hj:=mem_upL.1 hj;obtain⟨J,rfl⟩:=Int.eq_ofNat_of_zero_le hj.1;obtain⟨s,hs⟩:∃s,S[J]? =some s:=⟨_,List.getElem?_eq_getElem (by omega)⟩;rw[hg.fromS hd hs];exact h s (List.mem_of_getElem? hs)
theorem Fine.inB{d:Int}(hd:0<=d/\d<=90): -1000000<=(Z4L r0 r1 r2 r3 S d).1/\(Z4L r0 r1 r2 r3 S d).2<=1000000:=by
 obtain⟨s,hs⟩:=List.exists_mem_of_ne_nil _ hg.ne;have h1:=(hg.lo hd).1 (Int.le_refl _) s hs;have h2:=(hg.hi hd).1 (Int.le_refl _) s hs;have h3:=Zdy hg.ok hs hd;omega
theorem Fine.against:Z1r r0 r1 r2 r3 (S.map Ze)=0:=by
 have hf:=ZfU hg.le8;have h1:1<=2 ^ S.length:=Nat.one_le_two_pow;have:=Z6X hg.ok (k:=2 ^ S.length - 1) (by omega);rw[hf,hg.ft] at this;rw[Z1r,List.length_map,ZfY,this,if_pos rfl]
theorem Fine.ask{rs:List Int}(h:∀r∈rs,r=0):firstV (Zy r0 r1 r2 r3 S rs)=0:=by
 refine firstV_zero fun i x hx=> ?_
 have:=List.mem_of_getElem? hx;simp only[Zy,List.mem_cons,List.mem_append,List.not_mem_nil,or_false] at this;rcases this with rfl|h1|rfl|rfl
 ·exact hg.cf
 ·exact h x h1
 ·have:=hg.pos;rw[ZdW,if_neg (by omega)]
 ·exact hg.against
omit hg in
theorem ZfS{d:Int}(hd:0<=d/\d<=90):Zv d=0:=by
 simp[Zv,okN,hd.1,hd.2]
theorem Fine.markF{d:Int}(hd:0<=d/\d<=90):markF r0 r1 r2 r3 S d=0:=
 hg.ask (by simpa using ZfS hd)
theorem Fine.markR{d:Int}(hd:0<=d/\d<=90):markR r0 r1 r2 r3 S d=Z4L r0 r1 r2 r3 S d:=if_pos (hg.markF hd)
end
set_option linter.all false
section
variable {r0 r1 r2 r3:Int} {S:List Rs} (hg:Fine r0 r1 r2 r3 S)
include hg
end
theorem Z64{w w':World}(h:w.grownBy w' none):Ext w w':=⟨h.size,fun b hb=>h.block b hb (fun e=>by cases e),h.tape,h.os,h.output⟩
theorem Z1p{w:World}{ops:Array Oper}{rest:List Oper}{o:Oper}{a:Act}{Q:Exit->Act->World->Prop}
 (hg:o.guard=none)(s x:Operand)(A2:o.op=Op.call {callee:=Callee.builtin Builtin.append,args:= #[s,x],argTypes:= #[57,57]})
 (B g:Nat)(u:Value)(hs:a.eval s= .slice (some ⟨g,0,none⟩) 1 1)(Ae:w.ownsRow B 27 1 (.slice (some ⟨g,0,none⟩) 1 1) 1 [u])(v:Value)(m:Nat)(vs:List Value)(hx:a.eval x=v)(Aq:w.ownsRow B 27 1 v m vs)(Cm:m=0->v= .slice none 0 0)
 (Rl:∀u∈vs,u.oneCell'=true)(b1:m<=1000000)(b3:B<=w.heap.size)
 (hK:∀g' cap' w',w'.ownsRow B 27 1 (.slice (some ⟨g',0,none⟩) (m+1) cap') (m+1) (u::vs)->Ext w w'->wpList prog ops Q rest (a.put o.dst (.slice (some ⟨g',0,none⟩) (m+1) cap')) w'):
 wpList prog ops Q (o::rest) a w:=by
 have A1:vs.length=m:=by have:=Aq.1;omega
 by_cases hm:m=0
 ·obtain rfl:=Cm hm;subst hm;obtain rfl:vs=[]:=List.eq_nil_of_length_eq_zero A1;refine wpList_plain hg fun K hK'=> ?_
  have Ag:=fun ty=>run_append_owned_none (P:=prog) w B 57 ty 27 Tryz.t27 1 u57 i27 (.slice (some ⟨g,0,none⟩) 1 1) 1 [u] Ae
  unfold Oper.wp;simp[execOp,A2,resolve,invoke,builtin,hs,hx,Ag o.type,Result.andThen];exact hK' _ _ (hK g 1 w Ae (Ext.rfl' w))
 ·obtain⟨gx,cx,rfl,_,_⟩:=Aq.form (by omega);refine wpList_append_grows w hg s x 57 A2 27 Tryz.t27 (.slice none 0 0) 1 24 u57 i27 t27z t27s t27b rfl (by omega) (some ⟨g,0,none⟩) 1 1 [u] hs (fun h=>by cases h) rfl (fun b hb j w hj=>by cases hb;exact Ae.cells (g:=g) rfl j w hj) ⟨gx,0,none⟩ m cx vs hx (by omega) (Aq.cells rfl) Rl (by omega) (by simp[maxLen];omega) (by omega) ?_;intro v' w' h1 h2;obtain⟨g',cap',rfl,_,_⟩:=World.ownsRow.form h1 (by omega);have e:m+1=1+m:=by omega
  exact hK g' cap' w' (by rw[e];exact Z05 (by simpa using h1) b3) (Z64 h2) |> fun h=>by rw[e] at h;exact h
end Go.Proofs.Tryq
namespace Go.Proofs.Tryq
set_option maxRecDepth 100000
set_option maxHeartbeats 8000000
open Go Go.Nk Go.RowKit
structure Ctb(a b c m:Int)(base:Option Addr)(n cap:Nat)(T:List (List Int))(B sb nb yb fb kb yk:Nat)(W:World):Prop where
 hs:W.heap[sb]? =some (.cells #[.int .i64 a,.int .i64 b,.int .i64 c,.int .i64 m,.slice base n cap] 120)
 hnb:W.heap[nb]? =some (.cells #[.map (some kb)] 183)
 hyb:W.heap[yb]? =some (.cells #[.map (some yk)] 182)
 hfn:W.heap[fb]? =some (.cells #[.func (.func 145) #[] #[.pointer (some ⟨sb,0,none⟩),.pointer (some ⟨nb,0,none⟩),.pointer (some ⟨yb,0,none⟩),.pointer (some ⟨fb,0,none⟩)]] 184)
 rows:∃G,MapAt prog 3 W yk G/\∀i:Nat,i<n->Shr B W ((G (.int .i64 i)).getD (.slice none 0 0)) (byL T i)
 ne:sb≠kb/\nb≠kb/\yb≠kb/\fb≠kb/\yk≠kb
 sz:B<=W.heap.size
theorem Ctb.step{a b c m:Int}{base:Option Addr}{n cap:Nat}{T:List (List Int)}{B sb nb yb fb kb yk:Nat}{W W':World}(h:Ctb a b c m base n cap T B sb nb yb fb kb yk W)(hX:Map1 kb W W'){es:Array MapEntry}{ck:Nat}(hk:W.heap[kb]? =some (.map es ck)):Ctb a b c m base n cap T B sb nb yb fb kb yk W':=by
 obtain⟨G,hG,hr⟩:=h.rows
 exact⟨(hX.block _ (Z5 h.hs) h.ne.1).trans h.hs,(hX.block _ (Z5 h.hnb) h.ne.2.1).trans h.hnb,(hX.block _ (Z5 h.hyb) h.ne.2.2.1).trans h.hyb,(hX.block _ (Z5 h.hfn) h.ne.2.2.2.1).trans h.hfn,
  ⟨G,hG.keep (hX.block _ hG.lt h.ne.2.2.2.2),fun i hi=>(hr i hi).map1 hX hk⟩,h.ne,Nat.le_trans h.sz hX.size⟩
theorem Z2B{kb:Nat}(w:World)(o:Obj):Map1 kb w (Go.ChangeMaps.setBlock w kb o):=
 ⟨rfl,rfl,rfl,by rw[Z2s];exact Nat.le_refl _,fun k _ hn=>Z0O hn o⟩
open Classical in
theorem Known.update{T:List (List Int)}{n B kb:Nat}{w:World}{G:Value->Option Value}(hT:Z62 T)(K6:∀l∈T,(∀p∈l,0<=p/\p<(n:Int))/\l.length<=9)(hn:n<=9)(h:Known T n B kb w G)(key:Nat->Bool)(V:Value)(hV:Shr B w V (Zk T n 0 key)):
 ∃o G',(Instr.mapUpdate 183 (.map (some kb)) (.agg (Zs key)) V).run prog w= .ok () (Go.ChangeMaps.setBlock w kb o)/\Known T n B kb (Go.ChangeMaps.setBlock w kb o) G':=by
 obtain⟨kl,Dt⟩:=Z4k key;obtain⟨es,ck,Fo⟩:=h.isMap;obtain⟨o,h1,h2⟩:=h.map.update K138 u183 Dt V;refine⟨o,_,h1,h2,fun key' v hv=> ?_⟩;split at hv
 ·rename_i he;cases hv;have hk:Zs key'=Zs key:=by simpa using he
  rw[Z1W (N:=n) hT (fun l hl p hp=>((K6 l hl).1 p hp).2) n 0 key' key (fun j _ hj=>ZbV hk j (by omega))];exact hV.map1 (Z2B w o) Fo
 ·exact(h.val key' v hv).map1 (Z2B w o) Fo
theorem Z3N{B:Nat}{w:World}:∀{vs:List Value}{ls:List (List Int)},Each (fun u s=>OwnI B w u s) vs ls->∀u∈vs,u.oneCell'=true
 |[],_,_,u,hu=>by cases hu
 |v::vs,[],h,u,hu=>h.elim
 |v::vs,l::ls,⟨h1,h2⟩,u,hu=>by
  rcases List.mem_cons.1 hu with rfl|hu
  ·rcases h1.2 with⟨rfl,_⟩|⟨g,cp,_,rfl,_⟩<;>rfl
  ·exact Z3N h2 u hu
theorem Z2C(T:List (List Int)):∀(d i:Nat)(u:Nat->Bool),(Zk T d i u).length<=d
 |0,_,_=>by simp[Zk]
 |d+1,i,u=>by
  have hb:∀a b:List (List Int),a.length<=d+1->b.length<=d+1->(Z0q a b).length<=d+1:=fun a b h h'=>by unfold Z0q;split<;>assumption
  have hf:∀(B m:List (List Int)),m.length<=d+1->(B.foldl (ZL u (Zk T d (i+1))) m).length<=d+1:=by
   intro B
   induction B with
   |nil=>exact fun m h=>h
   |cons l B ih=>
    intro m h;rw[List.foldl_cons];refine ih _ ?_;unfold ZL;split
    ·exact h
    ·exact hb _ _ h (by rw[List.length_cons];have:=Z2C T d (i+1) (by assumption);omega)
  rw[Zk];exact hb _ _ (hf _ _ (by simp)) (by have:=Z2C T d (i+1) u;omega)
theorem Z8B(a b c m:Int)(base:Option Addr)(n cap:Nat)(T:List (List Int))(B sb nb yb fb kb yk:Nat)(hn:n<=9)(hT:Z62 T)(S5:T.length<=1000000)(K6:∀l∈T,(∀p∈l,0<=p/\p<n)/\l.length<=9):
 ∀(d i0:Nat)(used:Nat->Bool)(W:World)(G:Value->Option Value),i0+d=n->Ctb a b c m base n cap T B sb nb yb fb kb yk W->Known T n B kb W G->
 Calls prog 145 #[.int .i64 i0,.agg (Zs used),.pointer (some ⟨sb,0,none⟩),.pointer (some ⟨nb,0,none⟩),.pointer (some ⟨yb,0,none⟩),.pointer (some ⟨fb,0,none⟩)] W fun e W'=>∃v G',e= .returned v/\Shr B W' v (Zk T d i0 used)/\Known T n B kb W' G'/\Map1 kb W W':=by
 intro d
 induction d with
 |zero=>
  intro i0 used W G hd hC hK;have hi:i0=n:=by omega
  subst hi;have s4:=Z0 hC.hs 4;simp only[List.getElem?_toArray,List.getElem?_cons_zero,List.getElem?_cons_succ] at s4;have A3:=Z5 hC.hs;generalize Ed:Zs used=no;have X9:no.size=9:=by rw[<-Ed];rfl
  go_enter func145,ntmps145;go_wp2;refine wp_scope_straight ?_;go_wp2;rw[Exit.noGoto_ret];refine bodyPost_ret (results_tmp rfl _ _ _) rfl ?_;exact⟨_,G,rfl,Shr.nil _ _,hK.ext ((Ext.rfl' W).alloc _),Map1.of_ext ((Ext.rfl' W).alloc _)⟩
 |succ d ih=>
  intro i0 used W G hd hC hK;have s4:=Z0 hC.hs 4;simp only[List.getElem?_toArray,List.getElem?_cons_zero,List.getElem?_cons_succ] at s4;have A3:=Z5 hC.hs;have An:((i0:Int)==(n:Int))=false:=by simp;omega
  simp only[Zs];go_enter func145,ntmps145;go_wp2;refine wp_scope_straight ?_;go_wp2;have Bj:Ext W ((W.alloc (.cells (Zs used) 138)).alloc (.cells (Zs used) 138)):=((Ext.rfl' W).alloc _).alloc _;have Cr:((W.alloc (.cells (Zs used) 138)).alloc (.cells (Zs used) 138)).heap[W.heap.size]? =some (.cells (Zs used) 138):=by simp only[Z3,Z2];rw[if_neg (by omega),if_pos trivial]
  have I2:((W.alloc (.cells (Zs used) 138)).alloc (.cells (Zs used) 138)).heap[W.heap.size+1]? =some (.cells (Zs (Z51 0 used)) 138):=by
   simp only[Z3,Z2];rw[if_pos trivial];rw[Z1o (out:=Z51 0 used) (out':=used) (fun j _=>by simp[Z51])]
  simp only[Zs] at Bj Cr I2;generalize (W.alloc _).alloc _=W1 at Bj Cr I2⊢;have hi9:i0<9:=by omega
  go_loopw [10,27] (fun _ v27 wr=>∃i:Nat,i<=i0/\v27= .int .i64 i/\Ext W wr/\wr.heap[W.heap.size]? =some (.cells (Zs used) 138)/\wr.heap[W.heap.size+1]? =some (.cells (Zs (Z51 i used)) 138)) (fun _ v27 _=>i0 - (intOf v27).toNat)
  case atStart=>exact⟨0,Nat.zero_le _,rfl,Bj,Cr,I2⟩
  case round=>
   obtain⟨i,hi,rfl,hE,h0,h1⟩:=hrel;clear Bj Cr I2;by_cases hii:i=i0
   ·subst hii;have S6:=hK.ext hE;obtain⟨kl,Dt⟩:=Z4k (Z51 i used);have G8:=S6.map.lookup K138 u183 (Zap wr) Dt true;have F0:Zk T (d+1) i used=Zk T n 0 (Z51 i used):=(by rw[Zao (N:=n) hT (fun l hl p hp=>((K6 l hl).1 p hp).2),hd]);have Uv:=(Map1.of_ext (kb:=kb) hE).block nb (Z5 hC.hnb) hC.ne.2.1;have n0:=Z0 (Uv.trans hC.hnb) 0;simp only[List.getElem?_toArray,List.getElem?_cons_zero] at n0;have y0:=Z0 h1 0;have y1:=Z0 h1 1;have y2:=Z0 h1 2;have y3:=Z0 h1 3;have y4:=Z0 h1 4;have y5:=Z0 h1 5;have y6:=Z0 h1 6;have y7:=Z0 h1 7;have y8:=Z0 h1 8;simp only[Zs,List.getElem?_toArray,List.getElem?_cons_zero,List.getElem?_cons_succ] at y0 y1 y2 y3 y4 y5 y6 y7 y8 G8;cases hG:G (.agg (Zs (Z51 i used))) with
    |some v=>
     have hv:=S6.val _ v hG;simp only[Zs] at hG;rw[hG] at G8;simp only[if_true,Option.getD_some,Option.isSome_some] at G8;go_wp2;rw[Exit.noGoto_ret];refine bodyPost_ret (results_tmp rfl _ _ _) rfl ?_;exact⟨v,G,rfl,by rw[F0];exact hv,S6,Map1.of_ext hE⟩
    |none=>
     have hGn:G (.agg (Zs (Z51 i used)))=none:=hG;simp only[Zs] at hG;rw[hG] at G8;simp only[if_true,Option.getD_none,Option.isSome_none] at G8;obtain⟨es,ck,Fo⟩:=hK.isMap;have Fu:=hC.step (Map1.of_ext hE) Fo;obtain⟨Gy,hGy,Bq⟩:=Fu.rows;obtain⟨kl3,Xh⟩:=Z3M i (by omega);have Xi:=hGy.lookup K3 u182 (Zap wr) Xh false;have Aq:=Bq i (by omega);simp only[if_neg (show¬(false=true) by decide)] at Xi;generalize (Gy (.int .i64 i)).getD (.slice none 0 0)=rv at Xi Aq;obtain⟨ao,cp,rfl⟩:=Aq.form;have x0:=Z0 Fu.hyb 0;simp only[List.getElem?_toArray,List.getElem?_cons_zero] at x0;clear hGy Bq;go_wp2;refine wp_label ?_;go_wp2;have hmax:(byL T i).length<=1000000:=Nat.le_trans (List.length_filter_le _ _) S5;obtain⟨wo,rfl⟩:∃wo:World,wo=wr:=⟨_,rfl⟩;clear y0 y1 y2 y3 y4 y5 y6 y7 y8 G8 Xi n0 x0;go_loopw [13,45] (fun v13 v45 w2=>∃(j:Nat)(G':Value->Option Value),j<=(byL T i).length/\v45= .int .i64 j/\Shr B w2 v13 (((byL T i).take j).foldl (ZL used (Zk T d (i+1))) [])/\Known T n B kb w2 G'/\Map1 kb wo w2) (fun _ v45 _=>(byL T i).length - (intOf v45).toNat)
     case atStart=>exact⟨0,G,Nat.zero_le _,rfl,Shr.nil _ _,S6,Map1.refl _ _⟩
     case round=>
      obtain⟨j,G',hj,rfl,I7,Pu,D1⟩:=hrel;obtain⟨es2,ck2,O6⟩:=S6.isMap;have Dt:=hK.map.lt;have S7:=Fu.step D1 O6;have z0:=Z0 S7.hfn 0;simp only[List.getElem?_toArray,List.getElem?_cons_zero] at z0;have Pf:=Z5 h0;have h7:wr.heap[W.heap.size]? =some (.cells (Zs used) 138):=(D1.block _ Pf (by omega)).trans h0;have y0:=Z0 h7 0;have y1:=Z0 h7 1;have y2:=Z0 h7 2;have y3:=Z0 h7 3;have y4:=Z0 h7 4;have y5:=Z0 h7 5;have y6:=Z0 h7 6;have y7:=Z0 h7 7;have y8:=Z0 h7 8;simp only[Zs,List.getElem?_toArray,List.getElem?_cons_zero,List.getElem?_cons_succ] at y0 y1 y2 y3 y4 y5 y6 y7 y8;obtain⟨a13,c13,rfl⟩:=I7.form;by_cases Im:j=(byL T i).length
      ·have O7:Shr B wr (.slice a13 ((byL T i).foldl (ZL used (Zk T d (i+1))) []).length c13) ((byL T i).foldl (ZL used (Zk T d (i+1))) []):=(by rw[Im,List.take_length] at I7;exact I7);have Av:=ih (i+1) used wr G' (by omega) S7 Pu;have H9:Zk T (d+1) i used=Z0q ((byL T i).foldl (ZL used (Zk T d (i+1))) []) (Zk T d (i+1) used):=rfl;rw[show((i+1:Nat):Int)=(i:Int)+1 from rfl] at Av;simp only[Zs] at Av;subst Im;rw[List.take_length];clear I7;generalize (byL T i).foldl (ZL used (Zk T d (i+1))) []=M at O7 H9⊢;generalize Zk T d (i+1) used=M2 at Av H9;by_cases C3:M.length<M2.length
       ·have E8:=fun a3 c3 w=>Z1V a13 M.length c13 a3 M2.length c3 w
        simp only[if_pos C3] at E8
        go_wp2_with (first
         |(go_at_call 145;refine Av.mono ?_;rintro e w3 ⟨v3,G3,rfl,Uw,S8,Kx⟩
           obtain⟨a3,c3,rfl⟩:=Uw.form;obtain⟨es3,ck3,J7⟩:=Pu.isMap;have Pr:=S7.step Kx J7;have S9:=O7.map1 Kx J7;have n3:=Z0 Pr.hnb 0;have F7:w3.heap[W.heap.size+1]? =some (.cells (Zs (Z51 i used)) 138):=(Kx.block _ (by have:=D1.size;have:=Z5 h1;omega) (by omega)).trans ((D1.block _ (Z5 h1) (by omega)).trans h1);have y0:=Z0 F7 0;have y1:=Z0 F7 1;have y2:=Z0 F7 2;have y3:=Z0 F7 3;have y4:=Z0 F7 4;have y5:=Z0 F7 5;have y6:=Z0 F7 6;have y7:=Z0 F7 7;have y8:=Z0 F7 8;simp only[Zs,List.getElem?_toArray,List.getElem?_cons_zero,List.getElem?_cons_succ] at y0 y1 y2 y3 y4 y5 y6 y7 y8 n3;obtain⟨o,G4,Cq,Xj⟩:=S8.update hT K6 hn (Z51 i used) (.slice a3 M2.length c3) (by rw[<-F0,H9];simp only[Z0q,if_pos C3];assumption);have Sa:=Z2B (kb:=kb) w3 o;simp only[Zs] at Cq)
         |(go_at_call 146;refine(E8 _ _ _).mono ?_;rintro e w4 ⟨rfl,Mc⟩;subst Mc))
        obtain⟨es4,ck4,O8⟩:=S8.isMap;rw[Exit.noGoto_ret];refine bodyPost_ret (results_tmp rfl _ _ _) rfl ?_;exact⟨_,G4,rfl,by rw[H9];simp only[Z0q,if_pos C3];exact Uw.map1 Sa O8,Xj,((Map1.of_ext hE).trans D1).trans (Kx.trans Sa)⟩
       ·have E8:=fun a3 c3 w=>Z1V a13 M.length c13 a3 M2.length c3 w
        simp only[if_neg C3] at E8
        go_wp2_with (first
         |(go_at_call 145;refine Av.mono ?_;rintro e w3 ⟨v3,G3,rfl,Uw,S8,Kx⟩
           obtain⟨a3,c3,rfl⟩:=Uw.form;obtain⟨es3,ck3,J7⟩:=Pu.isMap;have Pr:=S7.step Kx J7;have S9:=O7.map1 Kx J7;have n3:=Z0 Pr.hnb 0;have F7:w3.heap[W.heap.size+1]? =some (.cells (Zs (Z51 i used)) 138):=(Kx.block _ (by have:=D1.size;have:=Z5 h1;omega) (by omega)).trans ((D1.block _ (Z5 h1) (by omega)).trans h1);have y0:=Z0 F7 0;have y1:=Z0 F7 1;have y2:=Z0 F7 2;have y3:=Z0 F7 3;have y4:=Z0 F7 4;have y5:=Z0 F7 5;have y6:=Z0 F7 6;have y7:=Z0 F7 7;have y8:=Z0 F7 8;simp only[Zs,List.getElem?_toArray,List.getElem?_cons_zero,List.getElem?_cons_succ] at y0 y1 y2 y3 y4 y5 y6 y7 y8 n3;obtain⟨o,G4,Cq,Xj⟩:=S8.update hT K6 hn (Z51 i used) (.slice a13 M.length c13) (by rw[<-F0,H9];simp only[Z0q,if_neg C3];assumption);have Sa:=Z2B (kb:=kb) w3 o;simp only[Zs] at Cq)
         |(go_at_call 146;refine(E8 _ _ _).mono ?_;rintro e w4 ⟨rfl,Mc⟩;subst Mc))
        obtain⟨es4,ck4,O8⟩:=S8.isMap;rw[Exit.noGoto_ret];refine bodyPost_ret (results_tmp rfl _ _ _) rfl ?_;exact⟨_,G4,rfl,by rw[H9];simp only[Z0q,if_neg C3];exact S9.map1 Sa O8,Xj,((Map1.of_ext hE).trans D1).trans (Kx.trans Sa)⟩
      ·have Cu:j<(byL T i).length:=(by omega);obtain⟨_,vs,hvr,I8⟩:=Aq.map1 D1 O6;obtain⟨l,hl⟩:∃l,(byL T i)[j]? =some l:=⟨_,List.getElem?_eq_getElem Cu⟩;obtain⟨u,hu,Ev⟩:=I8.get j l hl;have Pp:=List.mem_of_getElem? hl;obtain⟨Fe,tl,Sc⟩:=Z6Q hT Pp;have hlT:=K6 l (List.mem_filter.1 Pp).1;obtain⟨gr,cr,Sd,Se,Ky⟩:=hvr.form (by rw[I8.length];omega);obtain⟨rfl,Kz,rfl⟩:ao=some ⟨gr,0,none⟩/\(byL T i).length=vs.length/\cp=cr:=(by simpa using Sd);have La:=hvr.cells (g:=gr) rfl j u hu;rw[Z0c] at La;obtain⟨gl,cl,rfl,Sg,J8⟩:=Ev.form (by rw[Sc];simp);have Ux:((byL T i).take (j+1)).foldl (ZL used (Zk T d (i+1))) []=ZL used (Zk T d (i+1)) (((byL T i).take j).foldl (ZL used (Zk T d (i+1))) []) l:=(by rw[Z0G hl,List.foldl_append];rfl);clear Sc;have W6:(0:Int)<=(j:Int):=(by omega);have hjL:(j:Int)<((byL T i).length:Int):=(by omega);go_wp2;have B5:Ext wr (wr.alloc (.cells (Zs used) 138)):=(Ext.rfl' wr).alloc _;have h5:(wr.alloc (.cells (Zs used) 138)).heap[wr.heap.size]? =some (.cells (Zs used) 138):=(by rw[Z3,if_pos rfl]);simp only[Zs] at B5;have h5':(wr.alloc (.cells #[.bool (used 0),.bool (used 1),.bool (used 2),.bool (used 3),.bool (used 4),.bool (used 5),.bool (used 6),.bool (used 7),.bool (used 8)] 138)).heap[wr.heap.size]? =some (.cells (Zs used) 138):=h5
       clear h5 y0 y1 y2 y3 y4 y5 y6 y7 y8;generalize wr.alloc _=w6 at B5 h5'⊢;obtain⟨wq,rfl⟩:∃wq:World,wq=wr:=⟨_,rfl⟩;go_loopw [52] (fun v52 w3=>∃(k:Nat)(u':Nat->Bool),k<=l.length/\v52= .int .i64 k/\Ext wq w3/\w3.heap[wq.heap.size]? =some (.cells (Zs u') 138)/\Hid (take1 used l=take1 u' (l.drop k))) (fun v52 _=>l.length - (intOf v52).toNat)
       case atStart=>exact⟨0,used,Nat.zero_le _,rfl,B5,h5',rfl⟩
       case round=>
        obtain⟨k,u',hk,rfl,C1,h6,O9⟩:=hrel;by_cases Xk:k=l.length
        ·subst Xk;have Si:take1 used l=some u':=(by rw[O9.out,List.drop_length];rfl);have Pv:=S7.step (Map1.of_ext C1) (Pu.isMap).choose_spec.choose_spec;have Pw:=Pu.ext C1;have z6:=Z0 Pv.hfn 0;simp only[List.getElem?_toArray,List.getElem?_cons_zero] at z6;have y0:=Z0 h6 0;have y1:=Z0 h6 1;have y2:=Z0 h6 2;have y3:=Z0 h6 3;have y4:=Z0 h6 4;have y5:=Z0 h6 5;have y6:=Z0 h6 6;have y7:=Z0 h6 7;have y8:=Z0 h6 8;simp only[Zs,List.getElem?_toArray,List.getElem?_cons_zero,List.getElem?_cons_succ] at y0 y1 y2 y3 y4 y5 y6 y7 y8;have ho6:=Ev.ext C1;have Sj:=I7.ext C1;have hfbl:fb<wr.heap.size:=Z5 Pv.hfn;have hwql:wq.heap.size<wr.heap.size:=Z5 h6;have Lb:ZL used (Zk T d (i+1)) (((byL T i).take j).foldl (ZL used (Zk T d (i+1))) []) l=Z0q (((byL T i).take j).foldl (ZL used (Zk T d (i+1))) []) (l::Zk T d (i+1) u'):=(by simp only[ZL,Si]);have Sl:∀W8,Ext wr W8->_:=fun W8 Px=>ih (i+1) u' W8 G' (by omega) (Pv.step (Map1.of_ext Px) (Pw.isMap).choose_spec.choose_spec) (Pw.ext Px)
         have Md:=Z6s wr B 27 #[.slice (some ⟨gl,0,none⟩) l.length cl] 1 wr.heap.size rfl Pv.sz rfl (by simp[maxLen]);rw[show((i+1:Nat):Int)=(i:Int)+1 from rfl] at Sl;simp only[Zs] at Sl;generalize ((byL T i).take j).foldl (ZL used (Zk T d (i+1))) []=Mp at Sj Lb Ux⊢;have Gu:(Zk T d (i+1) u').length<=1000000:=Nat.le_trans (Z2C T d (i+1) u') (by omega);generalize Zk T d (i+1) u'=M9 at Sl Lb Gu;by_cases C3:Mp.length<M9.length+1
         ·have E8:=fun a3 c3 w=>Z1V a13 Mp.length c13 a3 (M9.length+1) c3 w
          simp only[if_pos C3] at E8
          go_wp2_with (first
           |(go_at_call 145;refine(Sl _ (by(repeat (with_reducible first|assumption|exact Ext.rfl' _|apply Ext.alloc|apply Ext.drew)))).mono ?_;rintro e w9 ⟨v9,G9,rfl,Sm,Xl,Oa⟩
             obtain⟨a9,c9,rfl⟩:=Sm.form;obtain⟨J9,vs9,So,Py⟩:=Sm;have Kv:=Py.length;have Ja:=Z2R (Md:(wr.alloc (.cells #[.slice (some ⟨gl,0,none⟩) l.length cl] 27)).ownsRow B 27 1 _ 1 _) Oa (Pw.ext ((Ext.rfl' wr).alloc (.cells #[.slice (some ⟨gl,0,none⟩) l.length cl] 27))).isMap.choose_spec.choose_spec)
           |(at_builtin
             refine Z1p rfl _ _ rfl B wr.heap.size _ rfl Ja (.slice a9 M9.length c9) M9.length vs9 rfl (by rw[<-Kv];exact Kv▸So) (fun h=>J9 (List.eq_nil_of_length_eq_zero h)) (Z3N Py) Gu (Nat.le_trans Pv.sz (Nat.le_trans (by simp) Oa.size)) ?_;intro g' cap' w10 h10 Eh)
           |(go_at_call 146;refine(E8 _ _ _).mono ?_;rintro e w4 ⟨rfl,Mc⟩;subst Mc))
          have Jb:Map1 kb wr w4:=((Map1.of_ext ((Ext.rfl' wr).alloc (.cells #[.slice (some ⟨gl,0,none⟩) l.length cl] 27))).trans Oa).trans (Map1.of_ext Eh);have Jz:=Pw.isMap.choose_spec.choose_spec;rw[Kz];refine⟨⟨_,_,_,_,_,_,_,_,_,_,_,_,_,_,_,_,_,_,_,_,_,_,_,_,_,_,_,_,_,_,_,_,⟨j+1,G9,by omega,by push_cast;rfl,?_,Xl.ext Eh,(D1.trans (Map1.of_ext C1)).trans Jb⟩,rfl⟩,by simp[intOf];omega⟩;rw[Ux,Lb,Z0q,if_pos (by simpa using C3)];exact⟨fun h=>(by cases h),_::vs9,by rw[List.length_cons,Kv];exact h10,Z2R ho6 Jb Jz,Py.mono fun u s h=>Z00 h Eh⟩
         ·have E8:=fun a3 c3 w=>Z1V a13 Mp.length c13 a3 (M9.length+1) c3 w
          simp only[if_neg C3] at E8
          go_wp2_with (first
           |(go_at_call 145;refine(Sl _ (by(repeat (with_reducible first|assumption|exact Ext.rfl' _|apply Ext.alloc|apply Ext.drew)))).mono ?_;rintro e w9 ⟨v9,G9,rfl,Sm,Xl,Oa⟩
             obtain⟨a9,c9,rfl⟩:=Sm.form;obtain⟨J9,vs9,So,Py⟩:=Sm;have Kv:=Py.length;have Ja:=Z2R (Md:(wr.alloc (.cells #[.slice (some ⟨gl,0,none⟩) l.length cl] 27)).ownsRow B 27 1 _ 1 _) Oa (Pw.ext ((Ext.rfl' wr).alloc (.cells #[.slice (some ⟨gl,0,none⟩) l.length cl] 27))).isMap.choose_spec.choose_spec)
           |(at_builtin
             refine Z1p rfl _ _ rfl B wr.heap.size _ rfl Ja (.slice a9 M9.length c9) M9.length vs9 rfl (by rw[<-Kv];exact Kv▸So) (fun h=>J9 (List.eq_nil_of_length_eq_zero h)) (Z3N Py) Gu (Nat.le_trans Pv.sz (Nat.le_trans (by simp) Oa.size)) ?_;intro g' cap' w10 h10 Eh)
           |(go_at_call 146;refine(E8 _ _ _).mono ?_;rintro e w4 ⟨rfl,Mc⟩;subst Mc))
          have Jb:Map1 kb wr w4:=((Map1.of_ext ((Ext.rfl' wr).alloc (.cells #[.slice (some ⟨gl,0,none⟩) l.length cl] 27))).trans Oa).trans (Map1.of_ext Eh);have Jz:=Pw.isMap.choose_spec.choose_spec;rw[Kz];refine⟨⟨_,_,_,_,_,_,_,_,_,_,_,_,_,_,_,_,_,_,_,_,_,_,_,_,_,_,_,_,_,_,_,_,⟨j+1,G9,by omega,by push_cast;rfl,?_,Xl.ext Eh,(D1.trans (Map1.of_ext C1)).trans Jb⟩,rfl⟩,by simp[intOf];omega⟩;rw[Ux,Lb,Z0q,if_neg (by simpa using C3)];exact Sj.map1 Jb Jz
        ·obtain⟨p,hp⟩:∃p,l[k]? =some p:=⟨_,List.getElem?_eq_getElem (by omega)⟩;have Nw:=hlT.1 p (List.mem_of_getElem? hp);obtain⟨q,rfl⟩:=Int.eq_ofNat_of_zero_le Nw.1;have Oc:q<9:=(by omega);have Ga:=Ev.cells (g:=gl) rfl k (.int .i64 q) (by rw[List.getElem?_map,hp];rfl);rw[Z0c] at Ga;replace Ga:=C1.cellS Ga;have Pz:=Z0 h6 q;rw[Z1u _ q Oc] at Pz;have hfq:=Z8 h6 q;have Pt:(0:Int)<=(k:Int):=(by omega);have hkL:(k:Int)<(l.length:Int):=(by omega);have Qp:(0:Int)<=(q:Int):=(by omega);have Xm:(q:Int)<9:=(by omega);have K1:=Z0b hp;by_cases Uy:u' q=true
         ·rw[Uy] at Pz;have Sq:take1 used l=none:=(by rw[O9.out,K1,take1,if_pos (by simpa using Uy)]);go_wp2;refine⟨⟨j+1,G',by omega,by push_cast;rfl,?_,Pu.ext C1,D1.trans (Map1.of_ext C1)⟩,by simp[intOf];omega⟩;rw[Ux];simp only[ZL,Sq];exact I7.ext C1
         ·have Xn:u' q=false:=(by simpa using Uy);rw[Xn] at Pz;have Xo:Hid (take1 used l=take1 (fun j=>u' j||j==q) (l.drop (k+1))):=by
           show _=_;rw[O9.out,K1,take1,if_neg (by simpa using Uy)];simp
          go_wp2;exact⟨⟨k+1,_,by omega,by push_cast;rfl,C1.setCell _ _ (Nat.le_refl _),by rw[Zb h6,Z52 _ q Oc],Xo⟩,by simp[intOf];omega⟩
   ·have Hl:i<i0:=(by omega);have c1:=Z0 h1 i;rw[Z1u _ i (by omega)] at c1;have f1:=Z8 h1 i;have Cd:(0:Int)<=(i:Int):=(by omega);have hi8:(i:Int)<9:=(by omega);have hi7:(i:Int)<(i0:Int):=(by omega);go_wp2;refine⟨⟨i+1,by omega,by push_cast;rfl,hE.setCell _ _ (by simp),(set_ne (by simp) _).trans h0,?_⟩,by simp[intOf];omega⟩;rw[Zb h1,Z52 _ i (by omega)];rw[Z1o (out':=Z51 (i+1) used)];intro j _;simp only[Z51];by_cases hj:j=i
    ·subst hj;simp
    ·have e1:(j==i)=false:=(by simpa using hj);have e2:decide (j<i+1)=decide (j<i):=decide_eq_decide.2 (by omega);rw[e1,e2,Bool.or_false]
end Go.Proofs.Tryq
namespace Go.Nk
open Go Go.Region
open Go.Proofs.Tryq (Ext Z3 Z2)
variable {P:Program} {ops:Array Oper} {Q:Exit->Act->World->Prop}
variable {n:Nat} {Dl:List (Option Tmp)} {S:List (Option Value)} {L0:Tmp->Value} {M:(Nat->Bool)->(Tmp->Value)->World->Prop} {ℓ:Nat->Bool} {a:Act} {w w':World} {i:Nat} {o:Oper}
structure Sx where
 al:Nat
 t:Tmp
 k:Nat
 z:Array Value
 ty:TypeId
variable {w1:World} {B:List Sx} {x:Tmp->Value}
end Go.Nk
namespace Go.Proofs.Tryq
open Go Go.Nk Go.RowKit
open Go.Maps (Keyed)
open Go.ChangeMaps (setBlock)
theorem run_append_keep{P:Program}(w:World)(base:Nat)(t ty e:TypeId)(i:TypeInfo)(z:Value)(size bytes:Nat)(ht:P.underlying t=some (.slice e))(hi:P.info? e=some i)(hz:i.zero=some z)
 (Fx:i.size=size)(K8:i.bytes=bytes)(Uz:z.cells.size=size)(B6:0<size)
 (v:Value)(n:Nat)(xs:List Value)(Ae:w.ownsRow base e size v n xs)
 (a:Addr)(m c:Nat)(news:List Value)(hl:news.length=m*size)(E9:∀j u,news[j]? =some u->w.cell? (a.add j)=some u)(h1:∀u∈news,u.oneCell'=true)
 (V3:n+m<=maxLen)(F8:(n+m)*bytes<=140737488355328)(A4:base<=w.heap.size):
 ∃v' w',(Builtin.append_ #[t,t] ty #[v,.slice (some a) m c]).run P w= .ok v' w'/\w'.ownsRow base e size v' (n+m) (xs++news)/\w.grownBy w' v.ownBlock/\
  ((v'.ownBlock=v.ownBlock)\/∀k,v'.ownBlock=some k->w.heap.size<=k):=by
 rcases Ae.2 with⟨rfl,rfl⟩|⟨g,cap,cur,rfl,X3,hg,Dw,U7,Ak,Ix⟩
 ·have hx:xs=[]:=List.eq_nil_of_length_eq_zero (by simpa using Ae.1);subst hx;obtain⟨v',w',r1,r2,r3,_⟩:=run_append_own (P:=P) w w.heap.size t ty e i z size bytes ht hi hz Fx K8 Uz B6 (.slice none 0 0) 0 [] (World.ownsRow_nil _ _ _ _) a m c news hl E9 h1 V3 F8 (Nat.le_refl _);exact⟨v',w',r1,Z05 r2 A4,r3,.inr fun k hk=>(r2.lt k hk).1⟩
 ·by_cases Sr:n+m<=cap
  ·obtain⟨w',r1,r2,r3⟩:=run_append_fits (P:=P) w base t ty e i size ht hi Fx g n cap xs Ae a m c news hl E9 h1 Sr;exact⟨_,w',r1,r2,r3,.inl rfl⟩
  ·obtain⟨v',w',r1,r2,r3⟩:=run_append_arg_grows (P:=P) w t ty e i z size bytes ht hi hz Fx K8 Uz B6 ⟨g,0,none⟩ n cap xs Ae.1 (Ae.cells (g:=g) rfl) a m c news hl E9 (by omega) V3 F8;exact⟨v',w',r1,Z05 r2 A4,⟨r3.os,r3.tape,r3.output,r3.size,fun b hb _=>r3.block b hb (fun e=>by cases e)⟩,.inr fun k hk=>(r2.lt k hk).1⟩
theorem Z3V{P:Program}{w:World}{o:Oper}{a:Act}{K:Act->World->Prop}{Q:Exit->Act->World->Prop}(s x:Operand)(t:TypeId)
 (ho:o.op= .call {callee:= .builtin .append,args:= #[s,x],argTypes:= #[t,t]})
 (base:Nat)(e:TypeId)(i:TypeInfo)(z:Value)(size bytes:Nat)(ht:P.underlying t=some (.slice e))(hi:P.info? e=some i)(hz:i.zero=some z)
 (Fx:i.size=size)(K8:i.bytes=bytes)(Uz:z.cells.size=size)(B6:0<size)
 (v:Value)(n:Nat)(xs:List Value)(hs:a.eval s=v)(Ae:w.ownsRow base e size v n xs)
 (ad:Addr)(m c:Nat)(news:List Value)(hx:a.eval x= .slice (some ad) m c)(hl:news.length=m*size)(E9:∀j u,news[j]? =some u->w.cell? (ad.add j)=some u)(h1:∀u∈news,u.oneCell'=true)
 (V3:n+m<=maxLen)(F8:(n+m)*bytes<=140737488355328)(A4:base<=w.heap.size)
 (h:∀v' w',w'.ownsRow base e size v' (n+m) (xs++news)->w.grownBy w' v.ownBlock->((v'.ownBlock=v.ownBlock)\/∀k,v'.ownBlock=some k->w.heap.size<=k)->K (a.put o.dst v') w'):o.wp P a w K Q:=by
 obtain⟨v',w',hr,h2,h3,h4⟩:=run_append_keep (P:=P) w base t o.type e i z size bytes ht hi hz Fx K8 Uz B6 v n xs Ae ad m c news hl E9 h1 V3 F8 A4;unfold Oper.wp execOp;simp only[ho,resolve,invoke,builtin,Sem.run_bind,Sem.run_pure,Result.andThen_ok,List.map_toArray,List.map_cons,List.map_nil,hs,hx,hr];exact h v' w' h2 h3 h4
def ZO(G:Value->Option Value)(i:Nat):Value:=(G (.int .i64 i)).getD (.slice none 0 0)
def ByAt(B B2 n yk:Nat)(D:List (List Int))(w:World):Prop:=
 ∃G:Value->Option Value,MapAt prog 3 w yk G/\(∀i:Nat,i<n->Shr B w (ZO G i) (byL D i))/\(∀i j:Nat,i<n->j<n->i≠j->(ZO G i).ownBlock=none\/(ZO G i).ownBlock≠(ZO G j).ownBlock)/\∀i:Nat,i<n->∀k,(ZO G i).ownBlock=some k->B2<=k
theorem Shr.lt{B:Nat}{w:World}{v:Value}{ls:List (List Int)}(h:Shr B w v ls){k:Nat}(hk:v.ownBlock=some k):B<=k/\k<w.heap.size:=by
 obtain⟨_,vs,h1,_⟩:=h;exact h1.lt k hk
theorem Shr.isCells{B:Nat}{w:World}{v:Value}{ls:List (List Int)}(h:Shr B w v ls){k:Nat}(hk:v.ownBlock=some k):∃c,w.heap[k]? =some (.cells c 27):=by
 obtain⟨_,vs,h1,_⟩:=h;rcases h1.2 with⟨rfl,_⟩|⟨g,cp,cur,rfl,_,hg,_⟩
 ·cases hk
 ·cases hk;exact⟨cur,hg⟩
theorem Shr.grown{B:Nat}{W w:World}{v rv:Value}{ls rs:List (List Int)}(h:Shr B W v ls)(hr:Shr B W rv rs)(hg:W.grownBy w rv.ownBlock)(A8:v.ownBlock=none\/v.ownBlock≠rv.ownBlock):Shr B w v ls:=by
 obtain⟨h0,vs,h1,h2⟩:=h;refine⟨h0,vs,h1.kept hg A8,h2.mono fun u s hu=>hu.kept hg ?_⟩;obtain⟨_,rvs,k1,_⟩:=hr;exact Z4i hu k1 (by decide)
theorem OwnI.grownRow{B:Nat}{W w:World}{u rv:Value}{l:List Int}{rs:List (List Int)}(h:OwnI B W u l)(hr:Shr B W rv rs)(hg:W.grownBy w rv.ownBlock):OwnI B w u l:=by
 obtain⟨_,rvs,k1,_⟩:=hr;exact World.ownsRow.kept h hg (Z4i h k1 (by decide))
theorem ZbW(D:List (List Int))(l:List Int)(i:Nat):byL (D++[l]) i=if l.head? =some (i:Int) then byL D i++[l] else byL D i:=by
 unfold byL;rw[List.filter_append];by_cases h:l.head? =some (i:Int)
 ·rw[if_pos h,List.filter_cons_of_pos (by simpa using h),List.filter_nil]
 ·rw[if_neg h,List.filter_cons_of_neg (by simpa using h),List.filter_nil,List.append_nil]
open Classical in
theorem ByAt.step{B B2 n yk:Nat}{D:List (List Int)}{W:World}{G:Value->Option Value}(hm:MapAt prog 3 W yk G)(Bq:∀i:Nat,i<n->Shr B W (ZO G i) (byL D i))
 (Ci:∀i j:Nat,i<n->j<n->i≠j->(ZO G i).ownBlock=none\/(ZO G i).ownBlock≠(ZO G j).ownBlock)(A9:∀i:Nat,i<n->∀k,(ZO G i).ownBlock=some k->B2<=k)(Ny:B2<=W.heap.size){l:List Int}{i:Nat}(hi:i<n)(hn:n<100)(hl:l.head? =some (i:Int)){u v':Value}{w3:World}{vs:List Value}
 (hu:OwnI B W u l)(Ek:W.ownsRow B 27 1 (ZO G i) vs.length vs)(he:Each (fun u s=>OwnI B W u s) vs (byL D i))
 (Ae:w3.ownsRow B 27 1 v' (vs.length+1) (vs++[u]))(hg:W.grownBy w3 (ZO G i).ownBlock)(Jc:(v'.ownBlock=(ZO G i).ownBlock)\/∀k,v'.ownBlock=some k->W.heap.size<=k):
 ∃o,(Instr.mapUpdate 182 (.map (some yk)) (.int .i64 i) v').run prog w3= .ok () (setBlock w3 yk o)/\ByAt B B2 n yk (D++[l]) (setBlock w3 yk o):=by
 have hyk:∀k,(ZO G i).ownBlock=some k->k≠yk:=by
  rintro k hk rfl;obtain⟨c,hc⟩:=(Bq i hi).isCells hk;obtain⟨es,ck,hb,_⟩:=hm;rw[hb] at hc;cases hc
 have N8:MapAt prog 3 w3 yk G:=hm.keep (hg.block _ hm.lt (fun e=>hyk _ e.symm rfl));obtain⟨es,ck,Fo,_⟩:=N8;have N8:MapAt prog 3 w3 yk G:=hm.keep (hg.block _ hm.lt (fun e=>hyk _ e.symm rfl));obtain⟨kl,Dt⟩:=Z3M i (by omega);obtain⟨o,h1,h2⟩:=N8.update K3 u182 Dt v';refine⟨o,h1,_,h2,?_,?_,?_⟩
 ·have hX:=Z2B (kb:=yk) w3 o;intro j hj;have Aq:ZO (fun x=>if x=Value.int .i64 i then some v' else G x) j=if j=i then v' else ZO G j:=by
   unfold ZO;by_cases As:j=i
   ·subst As;simp
   ·have A8:¬(Value.int .i64 (j:Int)=Value.int .i64 (i:Int)):=(by simp;omega);simp[As,A8]
  rw[Aq,ZbW];by_cases As:j=i
  ·subst As;rw[if_pos rfl,if_pos hl];have hr:=Bq j hj;refine Shr.map1 (w:=w3) ⟨fun h=>by simp at h,vs++[u],by simpa using Ae,Each.append (he.mono fun u s h=>OwnI.grownRow h hr hg) ⟨OwnI.grownRow hu hr hg,trivial⟩⟩ hX Fo
  ·rw[if_neg As,if_neg (by rw[hl];simp;omega)];exact((Bq j hj).grown (Bq i hi) hg (Ci j i hj hi As)).map1 hX Fo
 ·have Aq:∀j:Nat,ZO (fun x=>if x=Value.int .i64 i then some v' else G x) j=if j=i then v' else ZO G j:=by
   intro j;unfold ZO;by_cases As:j=i
   ·subst As;simp
   ·have A8:¬(Value.int .i64 (j:Int)=Value.int .i64 (i:Int)):=(by simp;omega);simp[As,A8]
  intro p q hp hq hpq;rw[Aq,Aq];have key:∀j,j<n->j≠i->∀k,(ZO G j).ownBlock=some k->v'.ownBlock≠some k:=by
   intro j hj As k hk he;rcases Jc with h|h
   ·rcases Ci j i hj hi As with h'|h'
    ·rw[hk] at h';cases h'
    ·rw[hk,<-h,he] at h';exact h' rfl
   ·have:=h k he;have:=((Bq j hj).lt hk).2;omega
  by_cases Qj:p=i
  ·have Gh:q≠i:=fun h=>hpq (Qj.trans h.symm)
   rw[if_pos Qj,if_neg Gh];cases hv:v'.ownBlock with
   |none=>exact .inl rfl
   |some k=>exact .inr fun h=>key q hq Gh k h.symm hv
  ·rw[if_neg Qj];by_cases Gh:q=i
   ·rw[if_pos Gh];cases hv:(ZO G p).ownBlock with
    |none=>exact .inl rfl
    |some k=>exact .inr fun h=>key p hp Qj k hv h.symm
   ·rw[if_neg Gh];exact Ci p q hp hq hpq
 ·intro j hj k;have Aq:ZO (fun x=>if x=Value.int .i64 i then some v' else G x) j=if j=i then v' else ZO G j:=by
   unfold ZO;by_cases As:j=i
   ·subst As;simp
   ·have A8:¬(Value.int .i64 (j:Int)=Value.int .i64 (i:Int)):=(by simp;omega);simp[As,A8]
  rw[Aq];by_cases As:j=i
  ·rw[if_pos As];intro hk;rcases Jc with h|h
   ·exact A9 i hi k (by rw[<-h];exact hk)
   ·exact Nat.le_trans Ny (h k hk)
  ·rw[if_neg As];exact A9 j hj k
end Go.Proofs.Tryq
