import Derived.Test.YtedkbdkbbnemlaaGreatDoorNk27
set_option linter.all false
namespace Go.Proofs.Tryq
set_option maxRecDepth 100000
set_option maxHeartbeats 4000000
open Go Go.Nk Go.RowKit
def bestV(x:Int×Int):Int×Int:=(wrap64 (x.2 - wrap64 ((wrap64 (wrap64 (x.2 - x.1)+1)).tdiv 2)),wrap64 ((wrap64 (wrap64 (x.2 - x.1)+1)).tdiv 2))
def Z8H(r0 r1 r2 r3:Int)(S:List Rs)(a:Int):Int×Int:=if markF r0 r1 r2 r3 S a=0 then bestV (Z4L r0 r1 r2 r3 S a) else(0,0)
theorem Zc8(r0 r1 r2 r3:Int)(base:Option Addr)(n cap:Nat)(w:World)(at':Int)(S:List Rs)(hlen:S.length=n)(hS:RawS w base S)(hmo:Most w):
 Calls prog 51 #[.agg #[.int .i64 r0,.int .i64 r1,.int .i64 r2,.int .i64 r3,.slice base n cap],.int .i64 at'] w fun e w'=>
  e= .returned (.tuple #[.int .i64 (Z8H r0 r1 r2 r3 S at').1,.int .i64 (Z8H r0 r1 r2 r3 S at').2,.int .i64 (markF r0 r1 r2 r3 S at')])∧Ext w w':=by
 go_enter func51,ntmps51
 go_wp2_with fail
 have hE1:Ext w _:=(Ext.rfl' w).alloc (.cells #[.int .i64 r0,.int .i64 r1,.int .i64 r2,.int .i64 r3,.slice base n cap] 70)
 have hb:(w.alloc (.cells #[.int .i64 r0,.int .i64 r1,.int .i64 r2,.int .i64 r3,.slice base n cap] 70)).heap[w.heap.size]? =some (.cells #[.int .i64 r0,.int .i64 r1,.int .i64 r2,.int .i64 r3,.slice base n cap] 70):=by
  simp only[Z3,Z2];rw[if_pos trivial]
 generalize World.alloc _ _=w1 at hE1 hb⊢
 have hX:=Ext.rfl' w1
 have q0:=Z0 hb 0;have q1:=Z0 hb 1;have q2:=Z0 hb 2;have q3:=Z0 hb 3;have q4:=Z0 hb 4
 simp only[List.getElem?_toArray,List.getElem?_cons_zero,List.getElem?_cons_succ] at q0 q1 q2 q3 q4
 have g0:=Zet q0;have g1:=Zet q1;have g2:=Zet q2;have g3:=Zet q3;have g4:=Zet q4
 refine Zfn 9 8 7 [0,1,2,3,4,5,6] (.cells #[.int .i64 0,.int .i64 0,.int .i64 0,.int .i64 0,.slice none 0 0,.slice none 0 0] 146) (by kernel_rfl) rfl (by kernel_rfl) rfl rfl (fun a W=>by simp[go_sem,execOp,Act.eval]) ?_
 refine Zfj [0,1] (by kernel_rfl) rfl rfl (by kernel_rfl) ?_
 simp only[ZeD,List.getElem?_cons_succ,List.getElem?_cons_zero,List.cons_append,List.nil_append]
 repeat (go_big_quiet_step (fail))
 refine wpQuiet_nil ?_
 refine Zfk 2 rfl (by kernel_rfl) rfl (fun W hW=>Zfo (f:=104) (args:= #[.int .i64 at']) (by simp[go_sem,execOp,Act.eval]) ?_)
 refine(Z9v at' W).mono ?_
 rintro e V0 ⟨p0,rfl,hF,hp0⟩
 refine⟨.func (.func 151) #[] #[.pointer (some ⟨p0,0,none⟩)],rfl,hF,?_⟩
 replace hX:=hX.trans (hW.trans hF)
 clear hF hW
 go_simp
 refine Zfk 3 rfl (by kernel_rfl) rfl (fun W hW=>Zf3 ⟨.slice (some ⟨W.heap.size,0,none⟩) 1 1,W.alloc (.cells #[.func (.func 151) #[] #[.pointer (some ⟨p0,0,none⟩)]] 127),by simp[go_sem,execOp,Act.eval],(Ext.rfl' W).alloc _,?_⟩)
 have hck:=Z30 W #[.func (.func 151) #[] #[.pointer (some ⟨p0,0,none⟩)]] [(151,#[],#[.pointer (some ⟨p0,0,none⟩)])] W.heap.size rfl rfl
 have hF:=(hW.alloc (.cells #[.func (.func 151) #[] #[.pointer (some ⟨p0,0,none⟩)]] 127))
 replace hX:=hX.trans hF
 replace hp0:=hF.cellS hp0
 clear hF hW
 generalize W.heap.size=B2 at hck⊢
 generalize World.alloc W _=V9 at*
 go_simp
 refine Zfk 4 rfl (by kernel_rfl) rfl (fun W hW=>Zfo (f:=103) (args:= #[.agg #[.int .i64 r0,.int .i64 r1,.int .i64 r2,.int .i64 r3,.slice base n cap],.slice (some ⟨B2,0,none⟩) 1 1]) (by simp[go_sem,execOp,Act.eval]) ?_)
 refine(Z4K r0 r1 r2 r3 base n cap W 1 B2 (by omega) [(151,#[],#[.pointer (some ⟨p0,0,none⟩)])] [Zv at'] rfl rfl (fun j x hj=>hW.cellS (hck j x hj)) (by intro x hx args w';simp only[List.mem_cons,List.not_mem_nil,or_false] at hx;rcases hx with rfl<;>simp[go_sem]) (by
       intro j x r hj hr w' hw'
       match j,hj,hr with
       |0,hj,hr=>
        obtain rfl:=Option.some.inj hj
        obtain rfl:=Option.some.inj hr
        exact Z3x p0 at' w' ((hW.trans hw').cellS hp0)) S hlen (hS.ext (hE1.trans (hX.trans hW))) (hmo.ext (hE1.trans (hX.trans hW)))).mono ?_
 rintro e V10 ⟨k0,k1,k2,k3,b4,n4,c4,b5,n5,c5,rfl,hF,hask0⟩
 refine⟨.tuple #[.agg #[.int .i64 k0,.int .i64 k1,.int .i64 k2,.int .i64 k3,.slice b4 n4 c4,.slice b5 n5 c5],.int .i64 (firstV (Zy r0 r1 r2 r3 S [Zv at']))],rfl,hF,?_⟩
 replace hX:=hX.trans (hW.trans hF)
 have hask:Askd r0 r1 r2 r3 base n cap S [Zv at'] k0 k1 k2 k3 b4 n4 c4 b5 n5 c5 V10:=fun h=>by obtain⟨B,p,h0,h1,h2,h3,h4,h5,h6,h7,h8,h9,hC,_⟩:=hask0 h;exact⟨B,p,h0,h1,h2,h3,h4,h5,h6,h7,h8,h9,hC⟩
 clear hF hW hask0 hck hp0
 go_simp
 refine Zfj [5,6,7] (by kernel_rfl) rfl rfl (by kernel_rfl) ?_
 simp only[ZeD,List.getElem?_cons_succ,List.getElem?_cons_zero,List.cons_append,List.nil_append]
 repeat (go_big_quiet_step (fail))
 refine wpQuiet_nil ?_
 refine Zfq (by kernel_rfl) (fun W hW b hA hbl hbo=> ?_)
 have hA0:w1.heap.size≤b:=hA.1.1.1
 replace hX:=hX.trans hW
 replace hask:=hask.ext hW
 clear hW
 go_simp
 refine Zfp 2 (by kernel_rfl) (fun W hW=> ?_)
 simp only[List.drop_succ_cons,List.drop_zero]
 replace hX:=hX.trans hW
 replace hask:=hask.ext hW
 replace hbo:=hW.get hbo
 have hbw:w.heap.size≤b:=by have h1:=hA0;have h2:=hE1.size;omega
 have hEW:=hE1.trans hX
 clear hA hA0 hbl hW hX hE1 hb q0 q1 q2 q3 q4 g0 g1 g2 g3 g4
 have x0:=Z8 hbo 0;have x1:=Z8 hbo 1;have x2:=Z8 hbo 2;have x3:=Z8 hbo 3;have x4:=Z8 hbo 4;have x5:=Z8 hbo 5
 have y0:=Z0 hbo 0;have y1:=Z0 hbo 1;have y2:=Z0 hbo 2;have y3:=Z0 hbo 3;have y4:=Z0 hbo 4;have y5:=Z0 hbo 5
 simp only[List.getElem?_toArray,List.getElem?_cons_zero,List.getElem?_cons_succ] at y0 y1 y2 y3 y4 y5
 have hst:=Z0K hbo (.int .i64 k0) (.int .i64 k1) (.int .i64 k2) (.int .i64 k3) (.slice b4 n4 c4) (.slice b5 n5 c5)
 obtain⟨hX,hEX⟩:=hst
 replace hask:=hask.stored hbo hEX
 replace hEW:=hEX.before hEW hbw
 go_wp2_with fail
 generalize ((((((W.setCell ⟨b,0,none⟩ (.int .i64 k0)).setCell ⟨b,1,none⟩ (.int .i64 k1)).setCell ⟨b,2,none⟩ (.int .i64 k2)).setCell ⟨b,3,none⟩ (.int .i64 k3)).setCell ⟨b,4,none⟩ (.slice b4 n4 c4)).setCell ⟨b,5,none⟩ (.slice b5 n5 c5))=X at hX hask hEW hEX⊢
 clear hEX hbo hbw x0 x1 x2 x3 x4 x5 y0 y1 y2 y3 y4 y5
 refine Zfm ?_
 go_wp2_with fail
 ·have hne:(firstV (Zy r0 r1 r2 r3 S [Zv at']) !=0)=true:=by assumption
  have hm0:¬markF r0 r1 r2 r3 S at'=0:=by simpa[markF] using hne
  go_ret3
  exact⟨by rw[Z8H,if_neg hm0];rfl,hEW⟩
 ·have heq:(firstV (Zy r0 r1 r2 r3 S [Zv at']) !=0)=false:=by assumption
  have hm0:firstV (Zy r0 r1 r2 r3 S [Zv at'])=0:=by simpa using heq
  obtain⟨hcf,hrs,hnil,hag⟩:=Z11 hm0
  obtain⟨_,h8,_⟩:=Z0i hcf
  have hfar:=Z0N (hrs (Zv at') (by simp))
  obtain⟨d,rfl⟩:=Int.eq_ofNat_of_zero_le hfar.1
  have hd90:d≤90:=by omega
  obtain⟨B,p',e0,e1,e2,e3,e4,e5,e6,e7,e8,e9,hC⟩:=hask hm0
  subst k0 k1 k2 k3 b4 n4 c4 b5 n5 c5
  have hn8:n≤8:=by omega
  have hev:=fun v w'=>Z08 r0 r1 r2 r3 base n cap v hn8 w'
  have hat:=fun w' hm' hC'=>Z2Y r0 r1 r2 r3 (.slice base n cap) B n d (2 ^ n - 1) p' (cvS r0 r1 r2 r3 (S.map Ze)) hn8 hd90 (Z2Z hn8) w' hm' hC'
  have HV:Hid (Z4L r0 r1 r2 r3 S d=atF (cvS r0 r1 r2 r3 (S.map Ze)) (2 ^ n - 1) d n):=by
   show _=_
   rw[Z4L,Int.toNat_natCast,hlen]
  have hm1:Hid (markF r0 r1 r2 r3 S d=0):=hm0
  have hmW:=hmo.ext hEW
  clear hask hcf hrs hnil hag heq hm0 hfar
  generalize (2:Int) ^ n - 1=st at hev hat HV
  generalize atF (cvS r0 r1 r2 r3 (S.map Ze)) st d n=V at hat HV
  obtain⟨va,vb⟩:=V
  have x0:=Z0 hX 0;have x1:=Z0 hX 1;have x2:=Z0 hX 2;have x3:=Z0 hX 3;have x4:=Z0 hX 4;have x5:=Z0 hX 5
  simp only[List.getElem?_toArray,List.getElem?_cons_zero,List.getElem?_cons_succ] at x0 x1 x2 x3 x4 x5
  have c0:=Zet x0;have c1:=Zet x1;have c2:=Zet x2;have c3:=Zet x3;have c4:=Zet x4;have c5:=Zet x5
  refine Zfn 6 5 8 [0,1,2,3,4] (.cells #[.int .i64 0,.int .i64 0] 48) (by kernel_rfl) rfl (by kernel_rfl) rfl rfl (fun a W=>by simp[go_sem,execOp,Act.eval]) ?_
  refine Zfj [0,1,3] (by kernel_rfl) rfl rfl (by kernel_rfl) ?_
  simp only[ZeD,List.getElem?_cons_succ,List.getElem?_cons_zero,List.cons_append,List.nil_append]
  repeat (go_big_quiet_step (fail))
  refine wpQuiet_nil ?_
  refine Zfr 2 (f:=106) (args:= #[.agg #[.int .i64 r0,.int .i64 r1,.int .i64 r2,.int .i64 r3,.slice base n cap,.slice (some ⟨B,0,none⟩) n n]]) (v:= .int .i64 st) (by kernel_rfl) rfl rfl rfl (by kernel_rfl) rfl (fun W=>by simp[go_sem,execOp,Act.eval]) (fun W _=>hev _ W) ?_
  go_simp
  refine Zfr 4 (f:=105) (args:= #[.agg #[.int .i64 r0,.int .i64 r1,.int .i64 r2,.int .i64 r3,.slice base n cap,.slice (some ⟨B,0,none⟩) n n],.int .i64 st,.int .i64 d]) (v:= .agg #[.int .i64 va,.int .i64 vb]) (by kernel_rfl) rfl rfl rfl (by kernel_rfl) rfl (fun W=>by simp[go_sem,execOp,Act.eval]) (fun W hW=>hat W (hmW.ext hW) (hC.ext hW)) ?_
  go_simp
  refine Zfq (by kernel_rfl) (fun W hW b hA hbl hbo=> ?_)
  obtain⟨bx,rfl⟩:∃bx,bx=b:=⟨_,rfl⟩
  have hE4:=hW
  clear hW
  go_simp
  refine Zfp 1 (by kernel_rfl) (fun W hW=> ?_)
  simp only[List.drop_succ_cons,List.drop_zero]
  replace hbo:=hW.get hbo
  have hEW2:=(hEW.trans hE4).trans hW
  have hbw:w.heap.size≤bx:=by have h1:=hA;have h2:=hEW.size;omega
  have hxx:=set_pair hbo (.int .i64 va) (.int .i64 vb)
  have hEV:=(hEW2.setCell ⟨bx,0,none⟩ (.int .i64 va) hbw).setCell ⟨bx,1,none⟩ (.int .i64 vb) hbw
  have g:=Zc hbo;have g0:=g.1;have g1:=g.2.1;have g2:=g.2.2.1;have g3:=g.2.2.2
  clear g hEW2 hEW hW hE4 hbw hA hbl hC hmW hev hat hX x0 x1 x2 x3 x4 x5 c0 c1 c2 c3 c4 c5
  go_wp2_with fail
  generalize (W.setCell ⟨bx,0,none⟩ (.int .i64 va)).setCell ⟨bx,1,none⟩ (.int .i64 vb)=Y at hxx hEV⊢
  clear g0 g1 g2 g3 hbo
  refine Zfm ?_
  have g:=Zc hxx;have g0:=g.1;have g1:=g.2.1;have g2:=g.2.2.1;have g3:=g.2.2.2
  go_wp2
  go_ret3
  exact⟨by rw[Z8H,if_pos hm1.out,hm1.out,HV.out];rfl,hEV⟩
end Go.Proofs.Tryq
namespace Go.Proofs.Tryq
open Go Go.Nk Go.RowKit
set_option linter.all false
theorem setL_full_all:(List.range 9).all (fun n=>ZN (2 ^ n - 1)==upL n)=true:=by kernel_rfl
theorem ZfU{n:Nat}(hn:n≤8):ZN (2 ^ n - 1)=upL n:=by
 simpa using List.all_eq_true.1 setL_full_all n (List.mem_range.2 (by omega))
theorem mem_upL{n:Nat}{p:Int}:p∈upL n↔0≤p∧p<n:=by
 simp only[upL,List.mem_map,List.mem_range]
 constructor
 ·rintro⟨i,h,rfl⟩;omega
 ·intro h;exact⟨p.toNat,by omega,by omega⟩
theorem ZfY(n:Nat):(2:Int) ^ n - 1=((2 ^ n - 1:Nat):Int):=by
 have h1:1≤2 ^ n:=Nat.one_le_two_pow
 have h2:((2 ^ n:Nat):Int)=(2:Int) ^ n:=by simp
 omega
structure Fine(r0 r1 r2 r3:Int)(S:List Rs):Prop where
 cf:ZC r0 r1 r2 r3 S=0
 ne:S≠[]
 ft:Z20 r0 r1 r2 r3 S (upL S.length)=true
section
variable {r0 r1 r2 r3:Int} {S:List Rs} (hg:Fine r0 r1 r2 r3 S)
include hg
theorem Fine.ok:CardOk r0 r1 r2 r3 S:=Zav hg.cf
theorem Fine.pf{s t:Rs}(hs:s∈S)(ht:t∈S):Z6W r0 r1 r2 r3 s t:=by
 obtain⟨i,hi⟩:=List.mem_iff_getElem?.1 hs
 obtain⟨j,hj⟩:=List.mem_iff_getElem?.1 ht
 have h1:=(List.getElem?_eq_some_iff.1 hi).1
 have h2:=(List.getElem?_eq_some_iff.1 hj).1
 exact(Z8D hg.ok (fun p hp=>mem_upL.1 hp)).1 hg.ft i (mem_upL.2 (by omega)) j (mem_upL.2 (by omega)) s t (by simpa using hi) (by simpa using hj)
theorem Fine.le8:S.length≤8:=hg.ok.len
theorem Fine.pos:0<S.length:=List.length_pos_iff.2 hg.ne
theorem Fine.up_ne:upL S.length≠[]:=by
 have:=hg.pos
 exact List.ne_nil_of_mem (mem_upL.2 (show(0:Int)≤0∧(0:Int)<S.length by omega))
theorem Fine.mark_span{d:Int}(hd:0≤d∧d≤90):Z4L r0 r1 r2 r3 S d=Z57 r0 r1 r2 r3 S d (upL S.length):=by
 have hf:=ZfU hg.le8
 have h1:1≤2 ^ S.length:=Nat.one_le_two_pow
 have:=ZaE hg.ok (k:=2 ^ S.length - 1) (by omega) (by rw[hf];exact hg.up_ne) (d:=d.toNat) (by omega)
 rw[hf,Int.toNat_of_nonneg hd.1] at this
 rw[Z4L,ZfY,this]
theorem Fine.fromS{d:Int}(hd:0≤d∧d≤90){i:Nat}{s:Rs}(hs:S[i]? =some s):fromS r0 r1 r2 r3 S d i=spV r0 r1 r2 r3 s d:=by
 simp only[Tryq.fromS,Int.toNat_natCast,hs]
 exact Zax hg.ok (List.mem_of_getElem? hs) hd
theorem Fine.lo{d:Int}(hd:0≤d∧d≤90){x:Int}:(Z4L r0 r1 r2 r3 S d).1≤x↔∀s∈S,(spV r0 r1 r2 r3 s d).1≤x:=by
 rw[hg.mark_span hd,ZaD hg.up_ne]
 constructor
 ·intro h s hs
  obtain⟨i,hi⟩:=List.mem_iff_getElem?.1 hs
  have h1:=(List.getElem?_eq_some_iff.1 hi).1
  have:=h i (mem_upL.2 (by omega))
  rwa [hg.fromS hd hi] at this
 ·intro h j hj
  have hj:=mem_upL.1 hj
  obtain⟨J,rfl⟩:=Int.eq_ofNat_of_zero_le hj.1
  obtain⟨s,hs⟩:∃s,S[J]? =some s:=⟨_,List.getElem?_eq_getElem (by omega)⟩
  rw[hg.fromS hd hs]
  exact h s (List.mem_of_getElem? hs)
theorem Fine.hi{d:Int}(hd:0≤d∧d≤90){x:Int}:x≤(Z4L r0 r1 r2 r3 S d).2↔∀s∈S,x≤(spV r0 r1 r2 r3 s d).2:=by
 rw[hg.mark_span hd,Z6V hg.up_ne]
 constructor
 ·intro h s hs
  obtain⟨i,hi⟩:=List.mem_iff_getElem?.1 hs
  have h1:=(List.getElem?_eq_some_iff.1 hi).1
  have:=h i (mem_upL.2 (by omega))
  rwa [hg.fromS hd hi] at this
 ·intro h j hj
  have hj:=mem_upL.1 hj
  obtain⟨J,rfl⟩:=Int.eq_ofNat_of_zero_le hj.1
  obtain⟨s,hs⟩:∃s,S[J]? =some s:=⟨_,List.getElem?_eq_getElem (by omega)⟩
  rw[hg.fromS hd hs]
  exact h s (List.mem_of_getElem? hs)
theorem Fine.le{d:Int}(hd:0≤d∧d≤90):(Z4L r0 r1 r2 r3 S d).1≤(Z4L r0 r1 r2 r3 S d).2:=by
 rw[hg.lo hd]
 intro s hs
 rw[hg.hi hd]
 intro t ht
 have h1:=Zcv hg.ok s t d
 have h2:=hg.pf hs ht
 unfold Z6W at h2
 omega
theorem Fine.inB{d:Int}(hd:0≤d∧d≤90): -1000000≤(Z4L r0 r1 r2 r3 S d).1∧(Z4L r0 r1 r2 r3 S d).2≤1000000:=by
 obtain⟨s,hs⟩:=List.exists_mem_of_ne_nil _ hg.ne
 have h1:=(hg.lo hd).1 (Int.le_refl _) s hs
 have h2:=(hg.hi hd).1 (Int.le_refl _) s hs
 have h3:=Zdy hg.ok hs hd
 omega
theorem Fine.against:Z1r r0 r1 r2 r3 (S.map Ze)=0:=by
 have hf:=ZfU hg.le8
 have h1:1≤2 ^ S.length:=Nat.one_le_two_pow
 have:=Z6X hg.ok (k:=2 ^ S.length - 1) (by omega)
 rw[hf,hg.ft] at this
 rw[Z1r,List.length_map,ZfY,this,if_pos rfl]
theorem Fine.ask{rs:List Int}(h:∀r∈rs,r=0):firstV (Zy r0 r1 r2 r3 S rs)=0:=by
 refine firstV_zero fun i x hx=> ?_
 have:=List.mem_of_getElem? hx
 simp only[Zy,List.mem_cons,List.mem_append,List.not_mem_nil,or_false] at this
 rcases this with rfl|h1|rfl|rfl
 ·exact hg.cf
 ·exact h x h1
 ·have:=hg.pos
  rw[ZdW,if_neg (by omega)]
 ·exact hg.against
omit hg in
theorem ZfS{d:Int}(hd:0≤d∧d≤90):Zv d=0:=by
 simp[Zv,okN,hd.1,hd.2]
theorem Fine.markF{d:Int}(hd:0≤d∧d≤90):markF r0 r1 r2 r3 S d=0:=
 hg.ask (by simpa using ZfS hd)
theorem Fine.markR{d:Int}(hd:0≤d∧d≤90):markR r0 r1 r2 r3 S d=Z4L r0 r1 r2 r3 S d:=if_pos (hg.markF hd)
end
set_option linter.all false
section
variable {r0 r1 r2 r3:Int} {S:List Rs} (hg:Fine r0 r1 r2 r3 S)
include hg
theorem Fine.grows{d e:Int}(hd:0≤d)(hde:d≤e)(he:e≤90):
 (e - d)*r0≤(Z4L r0 r1 r2 r3 S e).1 - (Z4L r0 r1 r2 r3 S d).1∧(Z4L r0 r1 r2 r3 S e).1 - (Z4L r0 r1 r2 r3 S d).1≤(e - d)*r1∧
 (e - d)*r0≤(Z4L r0 r1 r2 r3 S e).2 - (Z4L r0 r1 r2 r3 S d).2∧(Z4L r0 r1 r2 r3 S e).2 - (Z4L r0 r1 r2 r3 S d).2≤(e - d)*r1:=by
 have hd2:0≤d∧d≤90:=by omega
 have he2:0≤e∧e≤90:=by omega
 have a0:=hg.ok.h0
 have a1:=hg.ok.h1.1
 rw[Int.mul_comm (e - d) r0,Int.mul_comm (e - d) r1]
 have l1:=(hg.lo hd2 (x:=(Z4L r0 r1 r2 r3 S d).1)).1 (Int.le_refl _)
 have l2:=(hg.lo he2 (x:=(Z4L r0 r1 r2 r3 S e).1)).1 (Int.le_refl _)
 have u1:=(hg.hi hd2 (x:=(Z4L r0 r1 r2 r3 S d).2)).1 (Int.le_refl _)
 have u2:=(hg.hi he2 (x:=(Z4L r0 r1 r2 r3 S e).2)).1 (Int.le_refl _)
 refine⟨?_,?_,?_,?_⟩
 ·have:(Z4L r0 r1 r2 r3 S d).1≤(Z4L r0 r1 r2 r3 S e).1 - r0*(e - d):=(hg.lo hd2).2 fun s hs=>by
   have h1:=l2 s hs
   have h2:=(Zgn (h:=s.m - Z5c r2 r3 s) (c:=s.a) a0 a1 hde).1
   simp only[spV] at h1⊢
   omega
  omega
 ·have:(Z4L r0 r1 r2 r3 S e).1≤(Z4L r0 r1 r2 r3 S d).1+r1*(e - d):=(hg.lo he2).2 fun s hs=>by
   have h1:=l1 s hs
   have h2:=(Zgn (h:=s.m - Z5c r2 r3 s) (c:=s.a) a0 a1 hde).2
   simp only[spV] at h1⊢
   omega
  omega
 ·have:(Z4L r0 r1 r2 r3 S d).2+r0*(e - d)≤(Z4L r0 r1 r2 r3 S e).2:=(hg.hi he2).2 fun s hs=>by
   have h1:=u1 s hs
   have h2:=(Z7O (h:=s.M+Z5c r2 r3 s) (c:=s.a) a0 a1 hde).1
   simp only[spV] at h1⊢
   omega
  omega
 ·have:(Z4L r0 r1 r2 r3 S e).2 - r1*(e - d)≤(Z4L r0 r1 r2 r3 S d).2:=(hg.hi hd2).2 fun s hs=>by
   have h1:=u2 s hs
   have h2:=(Z7O (h:=s.M+Z5c r2 r3 s) (c:=s.a) a0 a1 hde).2
   simp only[spV] at h1⊢
   omega
  omega
theorem Fine.next{d m:Int}(hd:0≤d)(hd2:d+1≤90)(h:(Z4L r0 r1 r2 r3 S d).1≤m∧m≤(Z4L r0 r1 r2 r3 S d).2):
 max (Z4L r0 r1 r2 r3 S (d+1)).1 (m+r0)≤min (Z4L r0 r1 r2 r3 S (d+1)).2 (m+r1):=by
 have g:=hg.grows hd (show d≤d+1 by omega) hd2
 have l:=hg.le (d:=d+1) (by omega)
 have a1:=hg.ok.h1.1
 rw[show d+1 - d=1 by omega,Int.one_mul,Int.one_mul] at g
 omega
theorem Fine.prev{d m:Int}(hd:0≤d)(hd2:d+1≤90)(h:(Z4L r0 r1 r2 r3 S (d+1)).1≤m∧m≤(Z4L r0 r1 r2 r3 S (d+1)).2):
 max (Z4L r0 r1 r2 r3 S d).1 (m - r1)≤min (Z4L r0 r1 r2 r3 S d).2 (m - r0):=by
 have g:=hg.grows hd (show d≤d+1 by omega) hd2
 have l:=hg.le (d:=d) (by omega)
 have a1:=hg.ok.h1.1
 rw[show d+1 - d=1 by omega,Int.one_mul,Int.one_mul] at g
 omega
theorem Fine.in_wide{s:Rs}(hs:s∈S):(Z68 r2 r3 s).1≤(Z4L r0 r1 r2 r3 S s.a).1∧(Z4L r0 r1 r2 r3 S s.a).2≤(Z68 r2 r3 s).2:=by
 have ha:=(hg.ok.ok s hs).1
 have h1:=(hg.lo ha).1 (Int.le_refl _) s hs
 have h2:=(hg.hi ha).1 (Int.le_refl _) s hs
 rw[Zaw hg.ok hs]
 simp only[spV,Zcu,Zc1,if_pos (Int.le_refl _),Int.sub_self,Int.mul_zero] at h1 h2
 omega
end
end Go.Proofs.Tryq
namespace Go.Proofs.Tryq
set_option maxRecDepth 100000
set_option maxHeartbeats 2000000
open Go Go.Nk Go.RowKit
set_option linter.all false
def RawU(w:World)(base:Option Addr)(l:List Int):Prop:=∀(i:Nat)(x:Int),l[i]? =some x→∃b off,base=some ⟨b,off,none⟩∧b<w.heap.size∧w.cell? ⟨b,off+i,none⟩=some (.int .u16 x)
theorem RawU.ext{w w':World}{base:Option Addr}{l:List Int}(h:RawU w base l)(e:Ext w w'):RawU w' base l:=fun i x hi=>by
 obtain⟨b,off,h1,h2,h3⟩:=h i x hi
 exact⟨b,off,h1,Nat.lt_of_lt_of_le h2 e.size,e.cellS h3⟩
theorem Zgj{w:World}{b:Nat}{a0 a1 a2 a3 a4:Value}{t:TypeId}(h:w.heap[b]? =some (.cells #[a0,a1,a2,a3,a4] t)):
 w.cell? ⟨b,0,none⟩=some a0∧w.cell? ⟨b,1,none⟩=some a1∧w.cell? ⟨b,2,none⟩=some a2∧w.cell? ⟨b,3,none⟩=some a3∧w.cell? ⟨b,4,none⟩=some a4:=
 ⟨Z0 h 0,Z0 h 1,Z0 h 2,Z0 h 3,Z0 h 4⟩
def Zgu(l:List Int)(k:Nat):Int:=l.getD k 0
theorem Zgp{l:List Int}{m:Int}(hm:0≤m)(h:∀x∈l,0≤x∧x≤m)(k:Nat):0≤Zgu l k∧Zgu l k≤m:=by
 unfold Zgu
 rw[List.getD_eq_getElem?_getD]
 cases hk:l[k]? with
 |none=>exact⟨Int.le_refl _,hm⟩
 |some x=>exact h x (List.mem_of_getElem? hk)
theorem Zgl(base:Option Addr)(n cap:Nat)(l:List Int)(k:Nat)(w:World)(hlen:l.length=n)(hk:k<1000)(hu:∀x∈l,0≤x∧x<65536)(h:RawU w base l):
 Calls prog 48 #[.slice base n cap,.int .i64 k] w fun e w'=>e= .returned (.int .i64 (Zgu l k))∧Ext w w':=by
 by_cases hkn:k<n
 ·obtain⟨x,hx⟩:∃x,l[k]? =some x:=⟨_,List.getElem?_eq_getElem (by omega)⟩
  obtain⟨b,off,rfl,hb,hc⟩:=h k x hx
  have hv:Hid (Zgu l k=x):=by show _=_;rw[Zgu,List.getD_eq_getElem?_getD,hx];rfl
  have hkn2:(k:Int)<(n:Int):=by omega
  have hw:wrap64 x=x:=Z6a _ (by have:=hu x (List.mem_of_getElem? hx);omega)
  clear hx h hu
  go_enter func48,ntmps48
  go_wp2
  rw[hv.out,hw]
  go_ret
  exact⟨rfl,Ext.rfl' _⟩
 ·have hv:Hid (Zgu l k=0):=by show _=_;rw[Zgu,List.getD_eq_getElem?_getD,List.getElem?_eq_none (by omega)];rfl
  have hkn2:¬(k:Int)<(n:Int):=by omega
  clear h hu
  go_enter func48,ntmps48
  go_wp2
  rw[hv.out]
  go_ret
  exact⟨rfl,Ext.rfl' _⟩
theorem Zgq(a b n:Int)(w:World)(hab:a≤b)(ha: -2000000≤a)(hb:b≤2000000)(hn:0≤n∧n<1099511627776):
 Calls prog 47 #[.agg #[.int .i64 a,.int .i64 b],.int .i64 n] w fun e w'=>e= .returned (.int .i64 (a+n % (b - a+1)))∧Ext w w':=by
 have h1:wrap64 (b - a)=b - a:=Z6a _ (by omega)
 have h2:wrap64 (b - a+1)=b - a+1:=Z6a _ (by omega)
 have h3:b - a+1≠0:=by omega
 have h4:n.tmod (b - a+1)=n % (b - a+1):=Int.tmod_eq_emod_of_nonneg hn.1
 have h5:0≤n % (b - a+1)∧n % (b - a+1)≤b - a:=⟨Int.emod_nonneg _ h3,by have:=Int.emod_lt_of_pos n (show 0<b - a+1 by omega);omega⟩
 have hE1:=(Ext.rfl' w).alloc (.cells #[.int .i64 a,.int .i64 b] 48)
 have hr:(w.alloc (.cells #[.int .i64 a,.int .i64 b] 48)).heap[w.heap.size]? =some (.cells #[.int .i64 a,.int .i64 b] 48):=by rw[Z3,if_pos rfl]
 go_enter func47,ntmps47
 go_wp2_with fail
 generalize World.alloc w _=w1 at hE1 hr⊢
 have q0:=Z0 hr 0;have q1:=Z0 hr 1
 simp only[List.getElem?_toArray,List.getElem?_cons_zero,List.getElem?_cons_succ] at q0 q1
 have g0:=Zet q0;have g1:=Zet q1
 refine ZeG 12 (by kernel_rfl) ?_
 refine ZeB [0,1,2,3,4,5,6,7,8,9,10,11] (by kernel_rfl) (by kernel_rfl) ?_
 simp only[ZeD,List.getElem?_cons_succ,List.getElem?_cons_zero,List.cons_append,List.nil_append]
 repeat (go_big_quiet_step (fail))
 refine wpQuiet_nil ?_
 refine Zf6 (by kernel_rfl) (fun W hW=> ?_)
 have hE2:=hE1.trans hW
 go_wp2
 go_ret
 exact⟨rfl,hE2⟩
end Go.Proofs.Tryq
namespace Go.Proofs.Tryq
set_option maxRecDepth 100000
set_option maxHeartbeats 4000000
open Go Go.Nk Go.RowKit
set_option linter.all false
def MK(w:World)(B:Nat)(M:Nat→Int):Prop:=∃cs,w.heap[B]? =some (.cells cs 3)∧cs.size=91∧∀j,j<91→cs[j]? =some (.int .i64 (M j))
theorem MK.cell{w:World}{B:Nat}{M:Nat→Int}(h:MK w B M){j:Nat}(hj:j<91):w.cell? ⟨B,j,none⟩=some (.int .i64 (M j)):=by
 obtain⟨cs,h1,h2,h3⟩:=h
 rw[Z0 h1];exact h3 j hj
theorem MK.get{w w':World}{B:Nat}{M:Nat→Int}(h:MK w B M)(e:Ext w w'):MK w' B M:=by
 obtain⟨cs,h1,h2,h3⟩:=h
 exact⟨cs,e.get h1,h2,h3⟩
theorem MK.lt{w:World}{B:Nat}{M:Nat→Int}(h:MK w B M):B<w.heap.size:=by
 obtain⟨cs,h1,h2,h3⟩:=h
 exact Z5 h1
theorem MK.set{w:World}{B:Nat}{M:Nat→Int}(h:MK w B M){d:Nat}(hd:d<91)(v:Int):MK (w.setCell ⟨B,d,none⟩ (.int .i64 v)) B (fun j=>if j=d then v else M j):=by
 obtain⟨cs,h1,h2,h3⟩:=h
 refine⟨_,Zb h1 _,by simpa using h2,fun j hj=> ?_⟩
 by_cases e:j=d
 ·subst e;simp[h2,hd]
 ·rw[Array.getElem?_setIfInBounds_ne (by omega),h3 j hj];exact congrArg (fun z=>some (Value.int .i64 z)) (if_neg e).symm
theorem MK.set_ne{w:World}{B:Nat}{M:Nat→Int}(h:MK w B M){a:Addr}(ha:B≠a.block)(v:Value):MK (w.setCell a v) B M:=by
 obtain⟨cs,h1,h2,h3⟩:=h
 exact⟨cs,(Tryq.set_ne ha v).trans h1,h2,h3⟩
def mk91:Array Value:=Array.replicate 91 (.int .i64 0)
theorem run_mk91(w:World):(Instr.makeSlice 27 (.int .i64 91) (.int .i64 91)).run prog w= .ok (.slice (some ⟨w.heap.size,0,none⟩) 91 91) (w.alloc (.cells mk91 3)):=by kernel_rfl
theorem MK.new(w:World):MK (w.alloc (.cells mk91 3)) w.heap.size (fun _=>0):=
 ⟨mk91,(Z3 _ _ _).trans (if_pos rfl),by simp[mk91],fun j hj=>by simp[mk91,hj]⟩
theorem MK.thaw{w:World}{B:Nat}{M:Nat→Int}(h:MK w B M)(j:Nat):w.frozen? ⟨B,j,none⟩=false:=by
 obtain⟨cs,h1,h2,h3⟩:=h
 exact Z8 h1 j
def Zgo(st k j:Nat):Prop:=(st≤j∧j<st+k∧j≤90)∨(91≤j+k∧j<st)
theorem Zgv(r0 r1 r2 r3:Int)(base:Option Addr)(n cap:Nat)(u mk:Int)(pb:Option Addr)(pn pc:Nat)(w:World)
 (hfair:∀W,Ext w W→Calls prog 42 #[.agg #[.int .i64 r0,.int .i64 r1,.int .i64 r2,.int .i64 r3,.slice base n cap]] W fun e w'=>e= .returned (.bool false)∧Ext W w')
 (hsh:∀W,Ext w W→Calls prog 22 #[] W fun e w'=>e= .returned (.bool true)∧Ext W w'):
 Calls prog 8 #[.agg #[.int .i64 r0,.int .i64 r1,.int .i64 r2,.int .i64 r3,.slice base n cap],.int .u8 u,.int .u16 mk,.slice pb pn pc] w fun e w'=>e= .returned (.bool true):=by
 go_enter func8,ntmps8
 go_wp2_with fail
 have hE1:=(Ext.rfl' w).alloc (.cells #[.int .i64 r0,.int .i64 r1,.int .i64 r2,.int .i64 r3,.slice base n cap] 70)
 have hr:(w.alloc (.cells #[.int .i64 r0,.int .i64 r1,.int .i64 r2,.int .i64 r3,.slice base n cap] 70)).heap[w.heap.size]? =some (.cells #[.int .i64 r0,.int .i64 r1,.int .i64 r2,.int .i64 r3,.slice base n cap] 70):=by rw[Z3,if_pos rfl]
 generalize World.alloc w _=w1 at hE1 hr⊢
 obtain⟨q0,q1,q2,q3,q4⟩:=Zgj hr
 have g0:=Zet q0;have g1:=Zet q1;have g2:=Zet q2;have g3:=Zet q3;have g4:=Zet q4
 refine ZeG 18 (by kernel_rfl) ?_
 refine ZeB [0] (by kernel_rfl) (by kernel_rfl) ?_
 simp only[ZeD,List.getElem?_cons_succ,List.getElem?_cons_zero,List.cons_append,List.nil_append]
 repeat (go_big_quiet_step (fail))
 refine wpQuiet_nil ?_
 refine ZeX 1 (f:=42) (args:= #[.agg #[.int .i64 r0,.int .i64 r1,.int .i64 r2,.int .i64 r3,.slice base n cap]]) (v:= .bool false) (by kernel_rfl) rfl (by kernel_rfl) rfl (fun W=>by simp[go_sem,execOp,Act.eval]) (fun W hW=>hfair W (hE1.trans hW)) ?_
 go_simp
 refine ZeB [2,3,4,5,6,7] (by kernel_rfl) (by kernel_rfl) ?_
 simp only[ZeD,List.getElem?_cons_succ,List.getElem?_cons_zero,List.cons_append,List.nil_append]
 repeat (go_big_quiet_step (fail))
 refine wpQuiet_nil ?_
 refine Zg4 8 (by kernel_rfl) rfl (by kernel_rfl) rfl ?_
 go_simp
 refine Zg4 9 (by kernel_rfl) rfl (by kernel_rfl) rfl ?_
 go_simp
 refine ZeB [10,11,12,13,14,15,16,17] (by kernel_rfl) (by kernel_rfl) ?_
 simp only[ZeD,List.getElem?_cons_succ,List.getElem?_cons_zero,List.cons_append,List.nil_append]
 repeat (go_big_quiet_step (fail))
 refine wpQuiet_nil ?_
 refine Zf6 (by kernel_rfl) (fun W hW=> ?_)
 have hE2:=hE1.trans hW
 clear hr q0 q1 q2 q3 q4 g0 g1 g2 g3 g4
 go_wp2_with (first|(go_at_call 22;refine(hsh _ hE2).mono ?_;rintro e w3 ⟨rfl,hE4⟩))
 go_ret
 exact rfl
theorem Zgw(r0 r1 r2 r3:Int)(base:Option Addr)(n cap:Nat)(u mk:Int)(pb:Option Addr)(pn pc:Nat)(w:World)
 (hfair:∀W,Ext w W→Calls prog 42 #[.agg #[.int .i64 r0,.int .i64 r1,.int .i64 r2,.int .i64 r3,.slice base n cap]] W fun e w'=>e= .returned (.bool true)∧Ext W w')
 (hup:∀W,Ext w W→Calls prog 44 #[.int .i64 n] W fun e w'=>∃x,e= .returned x∧(∃ao cp,x= .slice ao n cp∧RawI w' ao (upL n)∧n≤cp)∧Ext W w')
 (hfit:∀W ao cp,Ext w W→RawI W ao (upL n)→n≤cp→Calls prog 43 #[.agg #[.int .i64 r0,.int .i64 r1,.int .i64 r2,.int .i64 r3,.slice base n cap],.slice ao n cp] W fun e w'=>e= .returned (.bool false)∧Ext W w')
 (hsh:∀W,Ext w W→Calls prog 22 #[] W fun e w'=>e= .returned (.bool true)∧Ext W w'):
 Calls prog 8 #[.agg #[.int .i64 r0,.int .i64 r1,.int .i64 r2,.int .i64 r3,.slice base n cap],.int .u8 u,.int .u16 mk,.slice pb pn pc] w fun e w'=>e= .returned (.bool true):=by
 go_enter func8,ntmps8
 go_wp2_with fail
 have hE1:=(Ext.rfl' w).alloc (.cells #[.int .i64 r0,.int .i64 r1,.int .i64 r2,.int .i64 r3,.slice base n cap] 70)
 have hr:(w.alloc (.cells #[.int .i64 r0,.int .i64 r1,.int .i64 r2,.int .i64 r3,.slice base n cap] 70)).heap[w.heap.size]? =some (.cells #[.int .i64 r0,.int .i64 r1,.int .i64 r2,.int .i64 r3,.slice base n cap] 70):=by rw[Z3,if_pos rfl]
 generalize World.alloc w _=w1 at hE1 hr⊢
 obtain⟨q0,q1,q2,q3,q4⟩:=Zgj hr
 have g0:=Zet q0;have g1:=Zet q1;have g2:=Zet q2;have g3:=Zet q3;have g4:=Zet q4
 refine ZeG 18 (by kernel_rfl) ?_
 refine ZeB [0] (by kernel_rfl) (by kernel_rfl) ?_
 simp only[ZeD,List.getElem?_cons_succ,List.getElem?_cons_zero,List.cons_append,List.nil_append]
 repeat (go_big_quiet_step (fail))
 refine wpQuiet_nil ?_
 refine ZeX 1 (f:=42) (args:= #[.agg #[.int .i64 r0,.int .i64 r1,.int .i64 r2,.int .i64 r3,.slice base n cap]]) (v:= .bool true) (by kernel_rfl) rfl (by kernel_rfl) rfl (fun W=>by simp[go_sem,execOp,Act.eval]) (fun W hW=>hfair W (hE1.trans hW)) ?_
 go_simp
 refine ZeB [2,3,4,5,6,7] (by kernel_rfl) (by kernel_rfl) ?_
 simp only[ZeD,List.getElem?_cons_succ,List.getElem?_cons_zero,List.cons_append,List.nil_append]
 repeat (go_big_quiet_step (fail))
 refine wpQuiet_nil ?_
 refine Zfa 8 rfl (by kernel_rfl) rfl (fun W hW=>Zfo (f:=44) (args:= #[.int .i64 n]) (by simp[go_sem,execOp,Act.eval]) ?_)
 refine(hup W (hE1.trans hW)).mono ?_
 rintro e W2 ⟨x,rfl,hx,hE3⟩
 obtain⟨ao,cp,rfl,hI,hcp⟩:=hx
 refine⟨.slice ao n cp,rfl,hE3,?_⟩
 have hE5:=hW.trans hE3
 clear hE3 hW
 clear W
 clear g0 g1 g2 g3 g4 q0 q1 q2 q3 q4
 replace hr:=hE5.get hr
 obtain⟨q0,q1,q2,q3,q4⟩:=Zgj hr
 have g0:=Zet q0;have g1:=Zet q1;have g2:=Zet q2;have g3:=Zet q3;have g4:=Zet q4
 go_simp
 refine ZeX 9 (f:=43) (args:= #[.agg #[.int .i64 r0,.int .i64 r1,.int .i64 r2,.int .i64 r3,.slice base n cap],.slice ao n cp]) (v:= .bool false) (by kernel_rfl) rfl (by kernel_rfl) rfl (fun W=>by simp[go_sem,execOp,Act.eval]) (fun W hW=>hfit W ao cp (hE1.trans (hE5.trans hW)) (hI.ext hW) hcp) ?_
 go_simp
 refine ZeB [10,11,12,13,14,15,16,17] (by kernel_rfl) (by kernel_rfl) ?_
 simp only[ZeD,List.getElem?_cons_succ,List.getElem?_cons_zero,List.cons_append,List.nil_append]
 repeat (go_big_quiet_step (fail))
 refine wpQuiet_nil ?_
 refine Zf6 (by kernel_rfl) (fun W hW=> ?_)
 have hE2:=hE1.trans (hE5.trans hW)
 clear hr q0 q1 q2 q3 q4 g0 g1 g2 g3 g4
 go_wp2_with (first|(go_at_call 22;refine(hsh _ hE2).mono ?_;rintro e w3 ⟨rfl,hE4⟩))
 go_ret
 exact rfl
theorem Zgx(r0 r1 r2 r3:Int)(base:Option Addr)(n cap:Nat)(u mk:Int)(pb:Option Addr)(pn pc:Nat)(w:World)
 (hfair:∀W,Ext w W→Calls prog 42 #[.agg #[.int .i64 r0,.int .i64 r1,.int .i64 r2,.int .i64 r3,.slice base n cap]] W fun e w'=>e= .returned (.bool true)∧Ext W w')
 (hup:∀W,Ext w W→Calls prog 44 #[.int .i64 n] W fun e w'=>∃x,e= .returned x∧(∃ao cp,x= .slice ao n cp∧RawI w' ao (upL n)∧n≤cp)∧Ext W w')
 (hfit:∀W ao cp,Ext w W→RawI W ao (upL n)→n≤cp→Calls prog 43 #[.agg #[.int .i64 r0,.int .i64 r1,.int .i64 r2,.int .i64 r3,.slice base n cap],.slice ao n cp] W fun e w'=>e= .returned (.bool true)∧Ext W w')
 (hn0:((n:Int)==0)=true)
 (hsh:∀W,Ext w W→Calls prog 22 #[] W fun e w'=>e= .returned (.bool true)∧Ext W w'):
 Calls prog 8 #[.agg #[.int .i64 r0,.int .i64 r1,.int .i64 r2,.int .i64 r3,.slice base n cap],.int .u8 u,.int .u16 mk,.slice pb pn pc] w fun e w'=>e= .returned (.bool true):=by
 go_enter func8,ntmps8
 go_wp2_with fail
 have hE1:=(Ext.rfl' w).alloc (.cells #[.int .i64 r0,.int .i64 r1,.int .i64 r2,.int .i64 r3,.slice base n cap] 70)
 have hr:(w.alloc (.cells #[.int .i64 r0,.int .i64 r1,.int .i64 r2,.int .i64 r3,.slice base n cap] 70)).heap[w.heap.size]? =some (.cells #[.int .i64 r0,.int .i64 r1,.int .i64 r2,.int .i64 r3,.slice base n cap] 70):=by rw[Z3,if_pos rfl]
 generalize World.alloc w _=w1 at hE1 hr⊢
 obtain⟨q0,q1,q2,q3,q4⟩:=Zgj hr
 have g0:=Zet q0;have g1:=Zet q1;have g2:=Zet q2;have g3:=Zet q3;have g4:=Zet q4
 refine ZeG 18 (by kernel_rfl) ?_
 refine ZeB [0] (by kernel_rfl) (by kernel_rfl) ?_
 simp only[ZeD,List.getElem?_cons_succ,List.getElem?_cons_zero,List.cons_append,List.nil_append]
 repeat (go_big_quiet_step (fail))
 refine wpQuiet_nil ?_
 refine ZeX 1 (f:=42) (args:= #[.agg #[.int .i64 r0,.int .i64 r1,.int .i64 r2,.int .i64 r3,.slice base n cap]]) (v:= .bool true) (by kernel_rfl) rfl (by kernel_rfl) rfl (fun W=>by simp[go_sem,execOp,Act.eval]) (fun W hW=>hfair W (hE1.trans hW)) ?_
 go_simp
 refine ZeB [2,3,4,5,6,7] (by kernel_rfl) (by kernel_rfl) ?_
 simp only[ZeD,List.getElem?_cons_succ,List.getElem?_cons_zero,List.cons_append,List.nil_append]
 repeat (go_big_quiet_step (fail))
 refine wpQuiet_nil ?_
 refine Zfa 8 rfl (by kernel_rfl) rfl (fun W hW=>Zfo (f:=44) (args:= #[.int .i64 n]) (by simp[go_sem,execOp,Act.eval]) ?_)
 refine(hup W (hE1.trans hW)).mono ?_
 rintro e W2 ⟨x,rfl,hx,hE3⟩
 obtain⟨ao,cp,rfl,hI,hcp⟩:=hx
 refine⟨.slice ao n cp,rfl,hE3,?_⟩
 have hE5:=hW.trans hE3
 clear hE3 hW
 clear W
 clear g0 g1 g2 g3 g4 q0 q1 q2 q3 q4
 replace hr:=hE5.get hr
 obtain⟨q0,q1,q2,q3,q4⟩:=Zgj hr
 have g0:=Zet q0;have g1:=Zet q1;have g2:=Zet q2;have g3:=Zet q3;have g4:=Zet q4
 go_simp
 refine ZeX 9 (f:=43) (args:= #[.agg #[.int .i64 r0,.int .i64 r1,.int .i64 r2,.int .i64 r3,.slice base n cap],.slice ao n cp]) (v:= .bool true) (by kernel_rfl) rfl (by kernel_rfl) rfl (fun W=>by simp[go_sem,execOp,Act.eval]) (fun W hW=>hfit W ao cp (hE1.trans (hE5.trans hW)) (hI.ext hW) hcp) ?_
 go_simp
 refine ZeB [10,11,12,13,14,15,16,17] (by kernel_rfl) (by kernel_rfl) ?_
 simp only[ZeD,List.getElem?_cons_succ,List.getElem?_cons_zero,List.cons_append,List.nil_append]
 repeat (go_big_quiet_step (fail))
 refine wpQuiet_nil ?_
 refine Zf6 (by kernel_rfl) (fun W hW=> ?_)
 have hE2:=hE1.trans (hE5.trans hW)
 clear hr q0 q1 q2 q3 q4 g0 g1 g2 g3 g4
 go_wp2_with (first|(go_at_call 22;refine(hsh _ hE2).mono ?_;rintro e w3 ⟨rfl,hE4⟩))
 go_ret
 exact rfl
set_option linter.all false
theorem Zgr(r0 r1 r2 r3:Int)(base:Option Addr)(n cap:Nat)(u mk:Int)(pb:Option Addr)(pn pc:Nat)(w:World)
 (hfair:∀W,Ext w W→Calls prog 42 #[.agg #[.int .i64 r0,.int .i64 r1,.int .i64 r2,.int .i64 r3,.slice base n cap]] W fun e w'=>e= .returned (.bool true)∧Ext W w')
 (hup:∀W,Ext w W→Calls prog 44 #[.int .i64 n] W fun e w'=>∃x,e= .returned x∧(∃ao cp,x= .slice ao n cp∧RawI w' ao (upL n)∧n≤cp)∧Ext W w')
 (hfit:∀W ao cp,Ext w W→RawI W ao (upL n)→n≤cp→Calls prog 43 #[.agg #[.int .i64 r0,.int .i64 r1,.int .i64 r2,.int .i64 r3,.slice base n cap],.slice ao n cp] W fun e w'=>e= .returned (.bool true)∧Ext W w')
 (hn0:((n:Int)==0)=false)(hn8:n≤8)(hu:0≤u∧u<256)(hmk:0≤mk∧mk<65536)(L:List Int)(hpl:Hid (L.length=pn))(hL:Hid (∀x∈L,0≤x∧x<65536))(hpU:Hid (RawU w pb L))
 (S:List Rs)(hlen:Hid (S.length=n))(hS:Hid (RawS w base S))(hSa:Hid (∀s∈S,0≤s.a∧s.a≤90))(LO HI:Int→Int)
 (hr01:0≤r0∧r0≤r1∧r1≤999)
 (hB:Hid (∀d,0≤d→d≤90→LO d≤HI d∧-1000000≤LO d∧HI d≤1000000))
 (hnx:Hid (∀d m,0≤d→d+1≤90→LO d≤m→m≤HI d→max (LO (d+1)) (m+r0)≤min (HI (d+1)) (m+r1)))
 (hpv:Hid (∀d m,0≤d→d+1≤90→LO (d+1)≤m→m≤HI (d+1)→max (LO d) (m - r1)≤min (HI d) (m - r0)))
 (hma:∀d,0≤d→d≤90→∀W,Ext w W→Calls prog 45 #[.agg #[.int .i64 r0,.int .i64 r1,.int .i64 r2,.int .i64 r3,.slice base n cap],.int .i64 d] W fun e w'=>e= .returned (.tuple #[.agg #[.int .i64 (LO d),.int .i64 (HI d)],.int .i64 0])∧Ext W w')
 (hwi:Hid (∀(i:Nat)(s:Rs),S[i]? =some s→∃wl wh,wl≤LO s.a∧HI s.a≤wh∧∀W,Ext w W→Calls prog 49 #[.agg #[.int .i64 r0,.int .i64 r1,.int .i64 r2,.int .i64 r3,.slice base n cap],.int .i64 i] W fun e w'=>e= .returned (.tuple #[.agg #[.int .i64 wl,.int .i64 wh],.int .i64 0])∧Ext W w'))
 (hsh:∀W,Ext w W→Calls prog 22 #[] W fun e w'=>e= .returned (.bool true)∧Ext W w'):
 Calls prog 8 #[.agg #[.int .i64 r0,.int .i64 r1,.int .i64 r2,.int .i64 r3,.slice base n cap],.int .u8 u,.int .u16 mk,.slice pb pn pc] w fun e w'=>e= .returned (.bool true):=by
 go_enter func8,ntmps8
 go_wp2_with fail
 have hE1:=(Ext.rfl' w).alloc (.cells #[.int .i64 r0,.int .i64 r1,.int .i64 r2,.int .i64 r3,.slice base n cap] 70)
 have hr:(w.alloc (.cells #[.int .i64 r0,.int .i64 r1,.int .i64 r2,.int .i64 r3,.slice base n cap] 70)).heap[w.heap.size]? =some (.cells #[.int .i64 r0,.int .i64 r1,.int .i64 r2,.int .i64 r3,.slice base n cap] 70):=by rw[Z3,if_pos rfl]
 generalize World.alloc w _=w1 at hE1 hr⊢
 obtain⟨q0,q1,q2,q3,q4⟩:=Zgj hr
 have g0:=Zet q0;have g1:=Zet q1;have g2:=Zet q2;have g3:=Zet q3;have g4:=Zet q4
 refine ZeG 18 (by kernel_rfl) ?_
 refine ZeB [0] (by kernel_rfl) (by kernel_rfl) ?_
 simp only[ZeD,List.getElem?_cons_succ,List.getElem?_cons_zero,List.cons_append,List.nil_append]
 repeat (go_big_quiet_step (fail))
 refine wpQuiet_nil ?_
 refine ZeX 1 (f:=42) (args:= #[.agg #[.int .i64 r0,.int .i64 r1,.int .i64 r2,.int .i64 r3,.slice base n cap]]) (v:= .bool true) (by kernel_rfl) rfl (by kernel_rfl) rfl (fun W=>by simp[go_sem,execOp,Act.eval]) (fun W hW=>hfair W (hE1.trans hW)) ?_
 go_simp
 refine ZeB [2,3,4,5,6,7] (by kernel_rfl) (by kernel_rfl) ?_
 simp only[ZeD,List.getElem?_cons_succ,List.getElem?_cons_zero,List.cons_append,List.nil_append]
 repeat (go_big_quiet_step (fail))
 refine wpQuiet_nil ?_
 refine Zfa 8 rfl (by kernel_rfl) rfl (fun W hW=>Zfo (f:=44) (args:= #[.int .i64 n]) (by simp[go_sem,execOp,Act.eval]) ?_)
 refine(hup W (hE1.trans hW)).mono ?_
 rintro e W2 ⟨x,rfl,hx,hE3⟩
 obtain⟨ao,cp,rfl,hI,hcp⟩:=hx
 refine⟨.slice ao n cp,rfl,hE3,?_⟩
 have hE5:=hW.trans hE3
 clear hE3 hW
 clear W
 clear g0 g1 g2 g3 g4 q0 q1 q2 q3 q4
 replace hr:=hE5.get hr
 obtain⟨q0,q1,q2,q3,q4⟩:=Zgj hr
 have g0:=Zet q0;have g1:=Zet q1;have g2:=Zet q2;have g3:=Zet q3;have g4:=Zet q4
 go_simp
 refine ZeX 9 (f:=43) (args:= #[.agg #[.int .i64 r0,.int .i64 r1,.int .i64 r2,.int .i64 r3,.slice base n cap],.slice ao n cp]) (v:= .bool true) (by kernel_rfl) rfl (by kernel_rfl) rfl (fun W=>by simp[go_sem,execOp,Act.eval]) (fun W hW=>hfit W ao cp (hE1.trans (hE5.trans hW)) (hI.ext hW) hcp) ?_
 go_simp
 refine ZeB [10,11,12,13,14,15,16,17] (by kernel_rfl) (by kernel_rfl) ?_
 simp only[ZeD,List.getElem?_cons_succ,List.getElem?_cons_zero,List.cons_append,List.nil_append]
 repeat (go_big_quiet_step (fail))
 refine wpQuiet_nil ?_
 refine Zf6 (by kernel_rfl) (fun W hW=> ?_)
 have hE2:=hE1.trans (hE5.trans hW)
 replace hr:=hW.get hr
 clear q0 q1 q2 q3 q4 g0 g1 g2 g3 g4 hfair hup hfit hI hcp hE1 hE5 hW
 obtain⟨q0,q1,q2,q3,q4⟩:=Zgj hr
 have hmk1:=run_mk91 W
 go_wp2_with fail
 clear hmk1 q0 q1 q2 q3 q4
 have hBw:=Z5 hr
 have hE6:=hE2.alloc (.cells mk91 3)
 replace hr:=((Ext.rfl' W).alloc (.cells mk91 3)).get hr
 have hMK:=MK.new W
 clear hE2
 generalize World.alloc W _=W6 at hE6 hr hMK⊢
 generalize W.heap.size=B at hBw hMK⊢
 have hq:0≤u % 91∧u % 91≤90:=by omega
 generalize u % 91=q at hq⊢
 obtain⟨st,rfl⟩:=Int.eq_ofNat_of_zero_le hq.1
 clear W
 go_loopw [11] (fun v wr=>∃(k:Nat)(M:Nat→Int),k≤91∧v= .int .i64 k∧Ext w wr∧wr.heap[w.heap.size]? =some (.cells #[.int .i64 r0,.int .i64 r1,.int .i64 r2,.int .i64 r3,.slice base n cap] 70)∧MK wr B M∧Hid (∀j:Nat,Zgo st k j→LO j≤M j∧M j≤HI j)) (fun v _=>91 - (intOf v).toNat)
 case atStart=>exact⟨0,_,by omega,rfl,hE6,hr,hMK,fun j hj=>by unfold Zgo at hj;omega⟩
 case round=>
  clear hE6 hr hMK
  obtain⟨k,M,hk,rfl,hE,hr,hMK,hD⟩:=hrel
  by_cases h91:k=91
  ·have hk91:¬(k:Int)≤90:=by omega
   have hAll:Hid (∀j:Nat,j≤90→LO j≤M j∧M j≤HI j):=fun j hj=>hD.out j (by unfold Zgo;omega)
   clear hD hma
   go_wp2_with fail
   obtain⟨wo,rfl⟩:∃wo:World,wo=wr:=⟨_,rfl⟩
   go_loopw [16] (fun v wr=>∃i:Nat,i≤n∧v= .int .i64 i∧Ext w wr∧wr.heap[w.heap.size]? =some (.cells #[.int .i64 r0,.int .i64 r1,.int .i64 r2,.int .i64 r3,.slice base n cap] 70)∧MK wr B M) (fun v _=>n - (intOf v).toNat)
   case atStart=>exact⟨0,Nat.zero_le _,rfl,hE,hr,hMK⟩
   case round=>
    clear hE hr hMK
    obtain⟨i,hi,rfl,hE,hr,hMK⟩:=hrel
    obtain⟨q0,q1,q2,q3,q4⟩:=Zgj hr
    have hl:=Z5 hr
    by_cases hin:i=n
    ·subst hin
     go_wp2_with (first|(go_at_call 22;(with_reducible refine(hsh _ hE).mono ?_);rintro e9 w8 ⟨rfl,hF⟩))
     go_ret
     exact rfl
    ·have hlt:(i:Int)<(n:Int):=by omega
     obtain⟨s,hs⟩:∃s,S[i]? =some s:=⟨_,List.getElem?_eq_getElem (by have:=hlen.out;omega)⟩
     obtain⟨wl,wh,hwl,hwh,hcall⟩:=hwi.out i s hs
     obtain⟨BS,OS,rfl,hBS,sh⟩:=hS.out i s hs
     have hsa:=hSa.out s (List.mem_of_getElem? hs)
     have s0:=hE.cellS sh.c0
     clear sh
     generalize s.a=sa at*
     obtain⟨A,rfl⟩:=Int.eq_ofNat_of_zero_le hsa.1
     have hA:=hAll.out A (by omega)
     have hm:=hMK.cell (j:=A) (by omega)
     generalize M A=ma at hA hm
     have hBl:=hMK.lt
     have hA91:(A:Int)<91:=by omega
     have c1:wl≤ma:=by omega
     have c2:ma≤wh:=by omega
     clear hs hwl hwh hA
     go_wp2_with (first|(go_at_call 49;(with_reducible refine(hcall _ hE).mono ?_);rintro e9 w3 ⟨rfl,hF⟩;replace hE:=hE.trans hF;replace hr:=hF.get hr;replace hMK:=hMK.get hF;replace s0:=hF.cellS s0;replace hm:=hF.cellS hm;replace hl:=Z5 hr;replace hBl:=hMK.lt;replace hBS:=Nat.lt_of_lt_of_le hBS hE.size;clear q0 q1 q2 q3 q4 hF hcall;obtain⟨q0,q1,q2,q3,q4⟩:=Zgj hr))
     go_roundw
     case rel=>exact⟨i+1,by omega,by push_cast;rfl,hE.alloc _,((Ext.rfl' _).alloc _).get hr,hMK.get ((Ext.rfl' _).alloc _)⟩
     case measure=>simp[intOf];omega
  ·have hk90:(k:Int)≤90:=by omega
   clear hwi hSa hS hlen hsh
   obtain⟨q0,q1,q2,q3,q4⟩:=Zgj hr
   have hl:=Z5 hr
   have hBl:=hMK.lt
   rcases(show k=0∨(0<k∧st+k≤90)∨90<st+k by omega) with h|⟨h,h'⟩|h
   case' inl=>
    have h0:¬(0:Int)<(k:Int):=by omega
    have h1:¬(90:Int)<(st:Int)+(k:Int):=by omega
    obtain⟨d,hd⟩:∃d:Nat,(st:Int)+(k:Int)=(d:Int):=⟨st+k,by push_cast;rfl⟩
    have hdk:(st+k≤90∧d=st+k)∨(90<st+k∧d+k=90):=by omega
    have hmd:=hma (d:Int) (by omega) (by omega)
    obtain⟨x1,x2,x3⟩:=hB.out (d:Int) (by omega) (by omega)
    rw[hd] at h1
    clear h
    go_wp2_with (first|(go_at_call 45;(with_reducible refine(hmd _ hE).mono ?_);rintro e9 w3 ⟨rfl,hF⟩;replace hE:=hE.trans hF;replace hr:=hF.get hr;replace hMK:=hMK.get hF;replace hl:=Z5 hr;replace hBl:=hMK.lt;clear q0 q1 q2 q3 q4 hF hmd;obtain⟨q0,q1,q2,q3,q4⟩:=Zgj hr))
    have hp:(w3.alloc (.cells #[.int .i64 (LO d),.int .i64 (HI d)] 48)).heap[w3.heap.size]? =some (.cells #[.int .i64 (LO d),.int .i64 (HI d)] 48):=by rw[Z3,if_pos rfl]
    replace hE:=hE.alloc (.cells #[.int .i64 (LO d),.int .i64 (HI d)] 48)
    replace hr:=((Ext.rfl' w3).alloc (.cells #[.int .i64 (LO d),.int .i64 (HI d)] 48)).get hr
    replace hMK:=hMK.get ((Ext.rfl' w3).alloc (.cells #[.int .i64 (LO d),.int .i64 (HI d)] 48))
    clear q0 q1 q2 q3 q4
    generalize w3.heap.size=bx at hl hBl hp⊢
    generalize World.alloc w3 _=W9 at hE hr hMK hp⊢
    clear w3
    obtain⟨xa,hxa⟩:∃x,x=LO (d:Int):=⟨_,rfl⟩
    obtain⟨xb,hxb⟩:∃x,x=HI (d:Int):=⟨_,rfl⟩
    have hxs:LO (d:Int)≤xa∧xa≤xb∧xb≤HI (d:Int)∧-1000000≤xa∧xb≤1000000:=by omega
    rw[←hxa,←hxb] at hp
    rw[←hxa,←hxb]
    clear hxa hxb x1 x2 x3
   case' inr.inl=>
    have h0:(0:Int)<(k:Int):=by omega
    have h1:¬(90:Int)<(st:Int)+(k:Int):=by omega
    obtain⟨d,hd⟩:∃d:Nat,(st:Int)+(k:Int)=(d:Int):=⟨st+k,by push_cast;rfl⟩
    have hdk:(st+k≤90∧d=st+k)∨(90<st+k∧d+k=90):=by omega
    obtain⟨e,he⟩:∃e:Nat,(d:Int) - 1=(e:Int):=⟨st+k - 1,by omega⟩
    have hme:=hD.out e (by unfold Zgo;omega)
    have hn1:=hnx.out e (M e) (by omega) (by omega) hme.1 hme.2
    rw[show(e:Int)+1=(d:Int) by omega] at hn1
    have hmd:=hma (d:Int) (by omega) (by omega)
    obtain⟨x1,x2,x3⟩:=hB.out (d:Int) (by omega) (by omega)
    obtain⟨_,x4,x5⟩:=hB.out (e:Int) (by omega) (by omega)
    have hmc:=hMK.cell (j:=e) (by omega)
    generalize M e=me at hme hn1 hmc
    have he1:(e:Int)<91:=by omega
    have he0:(0:Int)≤(e:Int):=by omega
    rw[hd] at h1
    clear h h'
    go_wp2_with (first|(go_at_call 45;(with_reducible refine(hmd _ hE).mono ?_);rintro e9 w3 ⟨rfl,hF⟩;replace hE:=hE.trans hF;replace hr:=hF.get hr;replace hMK:=hMK.get hF;replace hmc:=hF.cellS hmc;replace hl:=Z5 hr;replace hBl:=hMK.lt;clear q0 q1 q2 q3 q4 hF hmd;obtain⟨q0,q1,q2,q3,q4⟩:=Zgj hr))
    have hp:(w3.alloc (.cells #[.int .i64 (LO d),.int .i64 (HI d)] 48)).heap[w3.heap.size]? =some (.cells #[.int .i64 (LO d),.int .i64 (HI d)] 48):=by rw[Z3,if_pos rfl]
    replace hE:=hE.alloc (.cells #[.int .i64 (LO d),.int .i64 (HI d)] 48)
    replace hr:=((Ext.rfl' w3).alloc (.cells #[.int .i64 (LO d),.int .i64 (HI d)] 48)).get hr
    replace hMK:=hMK.get ((Ext.rfl' w3).alloc (.cells #[.int .i64 (LO d),.int .i64 (HI d)] 48))
    replace hmc:=((Ext.rfl' w3).alloc (.cells #[.int .i64 (LO d),.int .i64 (HI d)] 48)).cellS hmc
    clear q0 q1 q2 q3 q4
    generalize w3.heap.size=bx at hl hBl hp⊢
    generalize World.alloc w3 _=W9 at hE hr hMK hp hmc⊢
    clear w3
    have hxs:LO (d:Int)≤max (LO d) (me+r0)∧max (LO d) (me+r0)≤min (HI d) (me+r1)∧min (HI d) (me+r1)≤HI (d:Int)∧-1000000≤max (LO d) (me+r0)∧min (HI d) (me+r1)≤1000000:=by omega
    have hme3: -1000000≤me∧me≤1000000:=by omega
    clear x1 x2 x3 x4 x5 hn1 hme
    obtain⟨q0,q1,q2,q3,q4⟩:=Zgj hr
    have y:=Zc hp;have y0:=y.1;have y1:=y.2.1
    clear y
    have g0:=Zet q0;have g1:=Zet q1;have g2:=Zet q2;have g3:=Zet q3;have g4:=Zet q4
    have gm:=Zet hmc;have gy0:=Zet y0;have gy1:=Zet y1
    refine ZeG 21 (by kernel_rfl) ?_
    refine ZeB [0,1,2,3,4,5,6,7,8,9,10,11,12,13,14,15,16,17,18] (by kernel_rfl) (by kernel_rfl) ?_
    simp only[ZeD,List.getElem?_cons_succ,List.getElem?_cons_zero,List.cons_append,List.nil_append]
    repeat (go_big_quiet_step (fail))
    refine wpQuiet_nil ?_
    refine ZeX 19 (f:=34) (args:= #[.int .i64 (me+r0),.int .i64 (me+r1)]) (v:= .agg #[.int .i64 (me+r0),.int .i64 (me+r1)]) (by kernel_rfl) rfl (by kernel_rfl) rfl (fun W=>by simp[go_sem,execOp,Act.eval]) (fun W _=>Z3P _ _ W) ?_
    go_simp
    refine ZeX 20 (f:=46) (args:= #[.agg #[.int .i64 (LO d),.int .i64 (HI d)],.agg #[.int .i64 (me+r0),.int .i64 (me+r1)]]) (v:= .agg #[.int .i64 (max (LO d) (me+r0)),.int .i64 (min (HI d) (me+r1))]) (by kernel_rfl) rfl (by kernel_rfl) rfl (fun W=>by simp[go_sem,execOp,Act.eval]) (fun W _=>Zg5 _ _ _ _ W) ?_
    go_simp
    refine Zfp 1 (by kernel_rfl) (fun W hW=> ?_)
    simp only[List.drop_succ_cons,List.drop_zero]
    replace hp:=hW.get hp;replace hr:=hW.get hr;replace hMK:=hMK.get hW;replace hE:=hE.trans hW
    have g:=Zc hp;have p0:=g.1;have p1:=g.2.1;have p2:=g.2.2.1;have p3:=g.2.2.2
    have hl2:=Z5 hr;have hl3:=Z5 hp
    clear g q0 q1 q2 q3 q4 g0 g1 g2 g3 g4 gm gy0 gy1 y0 y1 hmc hW
    have hbw:w.heap.size≤bx:=by omega
    have hP:=set_pair hp (.int .i64 (max (LO d) (me+r0))) (.int .i64 (min (HI d) (me+r1)))
    have hC:=Zfl (i:=0) (j:=1) (u:= .int .i64 (max (LO d) (me+r0))) (v:= .int .i64 (min (HI d) (me+r1))) (show w.heap.size≠bx by omega) hr
    have hM2:=(hMK.set_ne (a:=⟨bx,0,none⟩) (show B≠bx by omega) (.int .i64 (max (LO d) (me+r0)))).set_ne (a:=⟨bx,1,none⟩) (show B≠bx by omega) (.int .i64 (min (HI d) (me+r1)))
    have hEY:=(hE.setCell ⟨bx,0,none⟩ (.int .i64 (max (LO d) (me+r0))) hbw).setCell ⟨bx,1,none⟩ (.int .i64 (min (HI d) (me+r1))) hbw
    clear hr hMK hE
    go_wp2_with fail
    generalize (W.setCell ⟨bx,0,none⟩ (.int .i64 (max (LO d) (me+r0)))).setCell ⟨bx,1,none⟩ (.int .i64 (min (HI d) (me+r1)))=Y at hP hC hM2 hEY⊢
    clear p0 p1 p2 p3 hp hl2 hl3 W W9
    refine Zfm ?_
    obtain⟨W9,rfl⟩:∃z,z=Y:=⟨_,rfl⟩
    have hp:=hP;have hr:=hC;have hMK:=hM2;have hE:=hEY
    clear hP hC hM2 hEY
    generalize (max (LO d) (me+r0))=xa at hxs hp⊢
    generalize (min (HI d) (me+r1))=xb at hxs hp⊢
   case' inr.inr=>
    have h0:(0:Int)<(k:Int):=by omega
    have h1:(90:Int)<(st:Int)+(k:Int):=by omega
    obtain⟨d,hd⟩:∃d:Nat,(90:Int) - (k:Int)=(d:Int):=⟨90 - k,by omega⟩
    have hdk:(st+k≤90∧d=st+k)∨(90<st+k∧d+k=90):=by omega
    obtain⟨e,he⟩:∃e:Nat,(d:Int)+1=(e:Int):=⟨d+1,by push_cast;rfl⟩
    have hme:=hD.out e (by unfold Zgo;omega)
    have hn1:=hpv.out d (M e) (by omega) (by omega) (by rw[he];exact hme.1) (by rw[he];exact hme.2)
    have hmd:=hma (d:Int) (by omega) (by omega)
    obtain⟨x1,x2,x3⟩:=hB.out (d:Int) (by omega) (by omega)
    obtain⟨_,x4,x5⟩:=hB.out (e:Int) (by omega) (by omega)
    have hmc:=hMK.cell (j:=e) (by omega)
    generalize M e=me at hme hn1 hmc
    have he1:(e:Int)<91:=by omega
    have he0:(0:Int)≤(e:Int):=by omega
    clear h
    go_wp2_with (first|(go_at_call 45;(with_reducible refine(hmd _ hE).mono ?_);rintro e9 w3 ⟨rfl,hF⟩;replace hE:=hE.trans hF;replace hr:=hF.get hr;replace hMK:=hMK.get hF;replace hmc:=hF.cellS hmc;replace hl:=Z5 hr;replace hBl:=hMK.lt;clear q0 q1 q2 q3 q4 hF hmd;obtain⟨q0,q1,q2,q3,q4⟩:=Zgj hr))
    have hp:(w3.alloc (.cells #[.int .i64 (LO d),.int .i64 (HI d)] 48)).heap[w3.heap.size]? =some (.cells #[.int .i64 (LO d),.int .i64 (HI d)] 48):=by rw[Z3,if_pos rfl]
    replace hE:=hE.alloc (.cells #[.int .i64 (LO d),.int .i64 (HI d)] 48)
    replace hr:=((Ext.rfl' w3).alloc (.cells #[.int .i64 (LO d),.int .i64 (HI d)] 48)).get hr
    replace hMK:=hMK.get ((Ext.rfl' w3).alloc (.cells #[.int .i64 (LO d),.int .i64 (HI d)] 48))
    replace hmc:=((Ext.rfl' w3).alloc (.cells #[.int .i64 (LO d),.int .i64 (HI d)] 48)).cellS hmc
    clear q0 q1 q2 q3 q4
    generalize w3.heap.size=bx at hl hBl hp⊢
    generalize World.alloc w3 _=W9 at hE hr hMK hp hmc⊢
    clear w3
    have hxs:LO (d:Int)≤max (LO d) (me - r1)∧max (LO d) (me - r1)≤min (HI d) (me - r0)∧min (HI d) (me - r0)≤HI (d:Int)∧-1000000≤max (LO d) (me - r1)∧min (HI d) (me - r0)≤1000000:=by omega
    have hme3: -1000000≤me∧me≤1000000:=by omega
    clear x1 x2 x3 x4 x5 hn1 hme
    obtain⟨q0,q1,q2,q3,q4⟩:=Zgj hr
    have y:=Zc hp;have y0:=y.1;have y1:=y.2.1
    clear y
    have g0:=Zet q0;have g1:=Zet q1;have g2:=Zet q2;have g3:=Zet q3;have g4:=Zet q4
    have gm:=Zet hmc;have gy0:=Zet y0;have gy1:=Zet y1
    refine ZeG 21 (by kernel_rfl) ?_
    refine ZeB [0,1,2,3,4,5,6,7,8,9,10,11,12,13,14,15,16,17,18] (by kernel_rfl) (by kernel_rfl) ?_
    simp only[ZeD,List.getElem?_cons_succ,List.getElem?_cons_zero,List.cons_append,List.nil_append]
    repeat (go_big_quiet_step (fail))
    refine wpQuiet_nil ?_
    refine ZeX 19 (f:=34) (args:= #[.int .i64 (me - r1),.int .i64 (me - r0)]) (v:= .agg #[.int .i64 (me - r1),.int .i64 (me - r0)]) (by kernel_rfl) rfl (by kernel_rfl) rfl (fun W=>by simp[go_sem,execOp,Act.eval]) (fun W _=>Z3P _ _ W) ?_
    go_simp
    refine ZeX 20 (f:=46) (args:= #[.agg #[.int .i64 (LO d),.int .i64 (HI d)],.agg #[.int .i64 (me - r1),.int .i64 (me - r0)]]) (v:= .agg #[.int .i64 (max (LO d) (me - r1)),.int .i64 (min (HI d) (me - r0))]) (by kernel_rfl) rfl (by kernel_rfl) rfl (fun W=>by simp[go_sem,execOp,Act.eval]) (fun W _=>Zg5 _ _ _ _ W) ?_
    go_simp
    refine Zfp 1 (by kernel_rfl) (fun W hW=> ?_)
    simp only[List.drop_succ_cons,List.drop_zero]
    replace hp:=hW.get hp;replace hr:=hW.get hr;replace hMK:=hMK.get hW;replace hE:=hE.trans hW
    have g:=Zc hp;have p0:=g.1;have p1:=g.2.1;have p2:=g.2.2.1;have p3:=g.2.2.2
    have hl2:=Z5 hr;have hl3:=Z5 hp
    clear g q0 q1 q2 q3 q4 g0 g1 g2 g3 g4 gm gy0 gy1 y0 y1 hmc hW
    have hbw:w.heap.size≤bx:=by omega
    have hP:=set_pair hp (.int .i64 (max (LO d) (me - r1))) (.int .i64 (min (HI d) (me - r0)))
    have hC:=Zfl (i:=0) (j:=1) (u:= .int .i64 (max (LO d) (me - r1))) (v:= .int .i64 (min (HI d) (me - r0))) (show w.heap.size≠bx by omega) hr
    have hM2:=(hMK.set_ne (a:=⟨bx,0,none⟩) (show B≠bx by omega) (.int .i64 (max (LO d) (me - r1)))).set_ne (a:=⟨bx,1,none⟩) (show B≠bx by omega) (.int .i64 (min (HI d) (me - r0)))
    have hEY:=(hE.setCell ⟨bx,0,none⟩ (.int .i64 (max (LO d) (me - r1))) hbw).setCell ⟨bx,1,none⟩ (.int .i64 (min (HI d) (me - r0))) hbw
    clear hr hMK hE
    go_wp2_with fail
    generalize (W.setCell ⟨bx,0,none⟩ (.int .i64 (max (LO d) (me - r1)))).setCell ⟨bx,1,none⟩ (.int .i64 (min (HI d) (me - r0)))=Y at hP hC hM2 hEY⊢
    clear p0 p1 p2 p3 hp hl2 hl3 W W9
    refine Zfm ?_
    obtain⟨W9,rfl⟩:∃z,z=Y:=⟨_,rfl⟩
    have hp:=hP;have hr:=hC;have hMK:=hM2;have hE:=hEY
    clear hP hC hM2 hEY
    generalize (max (LO d) (me - r1))=xa at hxs hp⊢
    generalize (min (HI d) (me - r0))=xb at hxs hp⊢
   all_goals (
    obtain⟨q0,q1,q2,q3,q4⟩:=Zgj hr
    have y:=Zc hp;have y0:=y.1;have y1:=y.2.1
    clear y
    try (go_wp2_with fail)
    clear h0 h1
    obtain⟨c1,hc1e⟩:∃c,c=Zgu L (k % 20):=⟨_,rfl⟩
    obtain⟨c2,hc2e⟩:∃c,c=Zgu L 20:=⟨_,rfl⟩
    have hc1i:0≤c1∧c1≤65535:=by rw[hc1e];exact Zgp (by omega) (fun x hx=>by have:=hL.out x hx;omega) _
    have hc2i:0≤c2∧c2≤65535:=by rw[hc2e];exact Zgp (by omega) (fun x hx=>by have:=hL.out x hx;omega) _
    have hc1:∀W,Ext w W→Calls prog 48 #[.slice pb pn pc,.int .i64 ((k:Int) % 20)] W fun e w'=>e= .returned (.int .i64 c1)∧Ext W w':=fun W hW=>by
     have h9:=Zgl pb pn pc L (k % 20) W hpl.out (by omega) hL.out (hpU.out.ext hW)
     rw[←hc1e,Int.natCast_emod] at h9
     exact h9
    have hc2:∀W,Ext w W→Calls prog 48 #[.slice pb pn pc,.int .i64 20] W fun e w'=>e= .returned (.int .i64 c2)∧Ext W w':=fun W hW=>by
     have h9:=Zgl pb pn pc L 20 W hpl.out (by omega) hL.out (hpU.out.ext hW)
     rw[←hc2e] at h9
     exact h9
    clear hc1e hc2e
    have hkp:=Z1A (x:=(k:Int)) (y:=c2) (a:=90) (b:=65535) (by omega) hc2i
    obtain⟨p,hp0⟩:∃p,(k:Int)*c2=p:=⟨_,rfl⟩
    rw[hp0] at hkp
    have hpk:=fun W=>Zgq xa xb (c1+p+mk) W (by omega) (by omega) (by omega) (by omega)
    have hpv1:0≤(c1+p+mk) % (xb - xa+1)∧(c1+p+mk) % (xb - xa+1)≤xb - xa:=⟨Int.emod_nonneg _ (by omega),by have:=Int.emod_lt_of_pos (c1+p+mk) (show 0<xb - xa+1 by omega);omega⟩
    obtain⟨pv,hpv0⟩:∃pv,xa+(c1+p+mk) % (xb - xa+1)=pv:=⟨_,rfl⟩
    rw[hpv0] at hpk
    have hpv2:xa≤pv∧pv≤xb:=by omega
    clear hpv0 hpv1
    have hd91:(d:Int)<91:=by omega
    have g0:=Zet q0;have g1:=Zet q1;have g2:=Zet q2;have g3:=Zet q3;have g4:=Zet q4
    have gy0:=Zet y0;have gy1:=Zet y1
    refine ZeG 17 (by kernel_rfl) ?_
    refine ZeB [0,1,2,3,4,5,7,8,12,13] (by kernel_rfl) (by kernel_rfl) ?_
    simp only[ZeD,List.getElem?_cons_succ,List.getElem?_cons_zero,List.cons_append,List.nil_append]
    repeat (go_big_quiet_step (fail))
    refine wpQuiet_nil ?_
    refine ZeX 6 (f:=48) (args:= #[.slice pb pn pc,.int .i64 ((k:Int) % 20)]) (v:= .int .i64 c1) (by kernel_rfl) rfl (by kernel_rfl) rfl (fun W=>by simp[go_sem,execOp,Act.eval]) (fun W hW=>hc1 W (hE.trans hW)) ?_
    go_simp
    refine ZeX 9 (f:=48) (args:= #[.slice pb pn pc,.int .i64 20]) (v:= .int .i64 c2) (by kernel_rfl) rfl (by kernel_rfl) rfl (fun W=>by simp[go_sem,execOp,Act.eval]) (fun W hW=>hc2 W (hE.trans hW)) ?_
    go_simp
    refine ZeB [10,11,14] (by kernel_rfl) (by kernel_rfl) ?_
    simp only[ZeD,List.getElem?_cons_succ,List.getElem?_cons_zero,List.cons_append,List.nil_append]
    repeat (go_big_quiet_step (fail))
    refine wpQuiet_nil ?_
    refine ZeX 15 (f:=47) (args:= #[.agg #[.int .i64 xa,.int .i64 xb],.int .i64 (c1+p+mk)]) (v:= .int .i64 pv) (by kernel_rfl) rfl (by kernel_rfl) rfl (fun W=>by simp[go_sem,execOp,Act.eval]) (fun W _=>hpk W) ?_
    go_simp
    refine ZeB [16] (by kernel_rfl) (by kernel_rfl) ?_
    simp only[ZeD,List.getElem?_cons_succ,List.getElem?_cons_zero,List.cons_append,List.nil_append]
    repeat (go_big_quiet_step (fail))
    refine wpQuiet_nil ?_
    refine Zfp 1 (by kernel_rfl) (fun W hW=> ?_)
    simp only[List.drop_succ_cons,List.drop_zero]
    replace hr:=hW.get hr;replace hE:=hE.trans hW
    have hM3:=(hMK.get hW).set (d:=d) (by omega) pv
    have hl2:=Z5 hr;have hB2:=(hMK.get hW).lt
    have hfz:=(hMK.get hW).thaw d
    have hcd:=(hMK.get hW).cell (j:=d) (by omega)
    clear q0 q1 q2 q3 q4 g0 g1 g2 g3 g4 gy0 gy1 y0 y1 hp hW hMK hc1 hc2 hpk
    have hr2:=(set_ne (w:=W) (a:=⟨B,d,none⟩) (b:=w.heap.size) (show w.heap.size≠B by omega) (.int .i64 pv)).trans hr
    have hE3:=hE.setCell ⟨B,d,none⟩ (.int .i64 pv) (show w.heap.size≤B by omega)
    clear hr hE
    go_wp2_with fail
    trace_state
    generalize (W.setCell ⟨B,d,none⟩ (.int .i64 pv))=Y at hM3 hr2 hE3⊢
    refine Zfm ?_
    go_wp2_with fail
    go_roundw
    case rel=>
     refine⟨k+1,_,by omega,by push_cast;rfl,hE3,hr2,hM3,fun j hj=> ?_⟩
     show LO j≤(if j=d then pv else M j)∧(if j=d then pv else M j)≤HI j
     by_cases e:j=d
     ·subst e;rw[if_pos rfl];omega
     ·rw[if_neg e];exact hD.out j (by unfold Zgo at hj⊢;omega)
    case measure=>simp[intOf];omega
    )
end Go.Proofs.Tryq
