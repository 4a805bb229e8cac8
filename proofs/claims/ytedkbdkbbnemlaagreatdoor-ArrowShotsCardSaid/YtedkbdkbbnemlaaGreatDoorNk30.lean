/- nocklaw01.ArrowShots: for every card and every index of a shot the call returns true, on every schedule and without a data race; its arguments read afterwards as they read before; nothing that was in memory is changed; at the return no other goroutine does more than leave. The card ties the four listed package variables to the program's text. Conditions: none beyond the card's own (the listed variables hold what the program's text lays). The texts of this claim were shortened by program (no remarks, short names) to fit the bounds on a claim's size; their long form lies in the repository's folder wip. -/
import Derived.Test.YtedkbdkbbnemlaaGreatDoorNk29
import Derived.JoinedOf
import Derived.KernelRfl
import Derived.Test.YtedkbdkbbnemlaaGreatDoorRows
set_option linter.all false
namespace Go.Proofs.Tryq
set_option maxRecDepth 100000
set_option maxHeartbeats 8000000
open Go Go.Nk Go.RowKit
set_option linter.all false
theorem Zi0(k:Nat):(bl k).length≤8:=by
 have:=List.length_filter_le (fun i=>k.testBit i) (List.range 8)
 simpa[bl] using this
theorem setLfull_all:(List.range 9).all (fun n=>ZN (2 ^ n - 1)==upL n)=true:=by kernel_rfl
theorem Zi6{n:Nat}(hn:n≤8):ZN (2 ^ n - 1)=upL n:=by
 simpa using List.all_eq_true.1 setLfull_all n (List.mem_range.2 (by omega))
theorem powc(n:Nat):(2:Int) ^ n - 1=((2 ^ n - 1:Nat):Int):=by
 have h1:1≤2 ^ n:=Nat.one_le_two_pow
 have h2:((2 ^ n:Nat):Int)=(2:Int) ^ n:=by simp
 omega
theorem ZhZ(r0 r1 r2 r3 k:Int)(base:Option Addr)(n cap:Nat)(w:World)(hn:20<n)
 (hsh:∀W,Ext w W→Calls prog 22 #[] W fun e w'=>e= .returned (.bool true)∧Ext W w'):
 Calls prog 12 #[.agg #[.int .i64 r0,.int .i64 r1,.int .i64 r2,.int .i64 r3,.slice base n cap],.int .i64 k] w fun e w'=>e= .returned (.bool true):=by
 have hr:=(Z3 w (.cells #[.int .i64 r0,.int .i64 r1,.int .i64 r2,.int .i64 r3,.slice base n cap] 70) w.heap.size).trans (if_pos rfl)
 have hE:=(Ext.rfl' w).alloc (.cells #[.int .i64 r0,.int .i64 r1,.int .i64 r2,.int .i64 r3,.slice base n cap] 70)
 obtain⟨q0,q1,q2,q3,q4⟩:=Zh3 hr
 have hn2:(20:Int)<(n:Int):=by omega
 go_enter func12,ntmps12
 go_wp2_with (first
  |(go_at_call 22;refine(hsh _ hE).mono ?_;rintro e w3 ⟨rfl,hE4⟩))
 go_ret
 exact rfl
theorem Zi3(r0 r1 r2 r3 k:Int)(base:Option Addr)(n cap:Nat)(w:World)(x1 x2 f g:Int)(fb:Bool)(C T:List Int)(hn:n≤20)(hCl:C.length≤1000000)(hTl:T.length≤1000000)
 (h49:∀W,Ext w W→Calls prog 49 #[.agg #[.int .i64 r0,.int .i64 r1,.int .i64 r2,.int .i64 r3,.slice base n cap],.int .i64 k] W fun e w'=>e= .returned (.tuple #[.agg #[.int .i64 x1,.int .i64 x2],.int .i64 g])∧Ext W w')
 (h61:∀W,Ext w W→Calls prog 61 #[.agg #[.int .i64 r0,.int .i64 r1,.int .i64 r2,.int .i64 r3,.slice base n cap],.int .i64 k] W fun e w'=>e= .returned (.tuple #[.agg #[.int .i64 x1,.int .i64 x2],.int .i64 g])∧Ext W w')
 (h62:∀W,Ext w W→Calls prog 62 #[.agg #[.int .i64 r0,.int .i64 r1,.int .i64 r2,.int .i64 r3,.slice base n cap]] W fun e w'=>e= .returned (.int .i64 f)∧Ext W w')
 (h63:∀W,Ext w W→Calls prog 63 #[.agg #[.int .i64 r0,.int .i64 r1,.int .i64 r2,.int .i64 r3,.slice base n cap]] W fun e w'=>e= .returned (.int .i64 f)∧Ext W w')
 (h64:∀W,Ext w W→Calls prog 64 #[.agg #[.int .i64 r0,.int .i64 r1,.int .i64 r2,.int .i64 r3,.slice base n cap]] W fun e w'=>e= .returned (.tuple #[.bool fb,.int .i64 f])∧Ext W w')
 (h65:∀W,Ext w W→Calls prog 65 #[.agg #[.int .i64 r0,.int .i64 r1,.int .i64 r2,.int .i64 r3,.slice base n cap]] W fun e w'=>e= .returned (.tuple #[.bool fb,.int .i64 f])∧Ext W w')
 (h66:∀W,Ext w W→Calls prog 66 #[.agg #[.int .i64 r0,.int .i64 r1,.int .i64 r2,.int .i64 r3,.slice base n cap]] W fun e w'=>∃bl cl,e= .returned (.tuple #[.slice bl C.length cl,.int .i64 f])∧RawI w' bl C∧Ext W w')
 (h67:∀W,Ext w W→Calls prog 67 #[.agg #[.int .i64 r0,.int .i64 r1,.int .i64 r2,.int .i64 r3,.slice base n cap]] W fun e w'=>∃bl cl,e= .returned (.tuple #[.slice bl C.length cl,.int .i64 f])∧RawI w' bl C∧Ext W w')
 (h68:∀W,Ext w W→Calls prog 68 #[.agg #[.int .i64 r0,.int .i64 r1,.int .i64 r2,.int .i64 r3,.slice base n cap]] W fun e w'=>∃bl cl,e= .returned (.tuple #[.slice bl T.length cl,.int .i64 f])∧RawI w' bl T∧Ext W w')
 (h69:∀W,Ext w W→Calls prog 69 #[.agg #[.int .i64 r0,.int .i64 r1,.int .i64 r2,.int .i64 r3,.slice base n cap]] W fun e w'=>∃bl cl,e= .returned (.tuple #[.slice bl T.length cl,.int .i64 f])∧RawI w' bl T∧Ext W w')
 (hsh:∀W,Ext w W→Calls prog 22 #[] W fun e w'=>e= .returned (.bool true)∧Ext W w'):
 Calls prog 12 #[.agg #[.int .i64 r0,.int .i64 r1,.int .i64 r2,.int .i64 r3,.slice base n cap],.int .i64 k] w fun e w'=>e= .returned (.bool true):=by
 have hr:=(Z3 w (.cells #[.int .i64 r0,.int .i64 r1,.int .i64 r2,.int .i64 r3,.slice base n cap] 70) w.heap.size).trans (if_pos rfl)
 have hE:=(Ext.rfl' w).alloc (.cells #[.int .i64 r0,.int .i64 r1,.int .i64 r2,.int .i64 r3,.slice base n cap] 70)
 obtain⟨q0,q1,q2,q3,q4⟩:=Zh3 hr
 have hn2:¬(20:Int)<(n:Int):=by omega
 go_enter func12,ntmps12
 go_wp2_with (first
  |(go_at_call 49;refine(h49 _ hE).mono ?_;rintro e w3 ⟨rfl,hF⟩
    replace hr:=hF.get hr;replace hE:=hE.trans hF
    clear q0 q1 q2 q3 q4 hF
    have hlr:=Z5 hr
    obtain⟨q0,q1,q2,q3,q4⟩:=Zh3 hr)
  |(go_at_call 61;refine(h61 _ (hE.alloc _)).mono ?_;rintro e w4 ⟨rfl,hF⟩
    have hx:=hF.get ((Z3 w3 (.cells #[.int .i64 x1,.int .i64 x2] 48) w3.heap.size).trans (if_pos rfl))
    replace hr:=hF.get (((Ext.rfl' w3).alloc _).get hr);replace hE:=(hE.alloc _).trans hF
    clear q0 q1 q2 q3 q4 hF
    obtain⟨q0,q1,q2,q3,q4⟩:=Zh3 hr))
 have hy:=(Z3 w4 (.cells #[.int .i64 x1,.int .i64 x2] 48) w4.heap.size).trans (if_pos rfl)
 replace hx:=((Ext.rfl' w4).alloc (.cells #[.int .i64 x1,.int .i64 x2] 48)).get hx
 replace hr:=((Ext.rfl' w4).alloc (.cells #[.int .i64 x1,.int .i64 x2] 48)).get hr
 replace hE:=hE.alloc (.cells #[.int .i64 x1,.int .i64 x2] 48)
 clear q0 q1 q2 q3 q4
 generalize w3.heap.size=bx at hx⊢
 generalize w4.heap.size=by' at hy⊢
 generalize World.alloc w4 _=w5 at hx hy hr hE⊢
 obtain⟨q0,q1,q2,q3,q4⟩:=Zh3 hr
 have g0:=Zet q0;have g1:=Zet q1;have g2:=Zet q2;have g3:=Zet q3;have g4:=Zet q4
 have zx:=Zc hx;have zy:=Zc hy
 have a0:=Zet zx.1;have a1:=Zet zx.2.1;have b0:=Zet zy.1;have b1:=Zet zy.2.1
 refine ZeG 15 (by kernel_rfl) ?_
 refine ZeB [0,1,2,3,4,5,6,7,8,9,11] (by kernel_rfl) (by kernel_rfl) ?_
 simp only[ZeD,List.getElem?_cons_succ,List.getElem?_cons_zero,List.cons_append,List.nil_append]
 repeat (go_big_quiet_step (fail))
 refine wpQuiet_nil ?_
 refine ZeX 10 (f:=62) (args:= #[.agg #[.int .i64 r0,.int .i64 r1,.int .i64 r2,.int .i64 r3,.slice base n cap]]) (v:= .int .i64 f) (by kernel_rfl) rfl (by kernel_rfl) rfl (fun W=>by simp[go_sem,execOp,Act.eval]) (fun W hW=>h62 W (hE.trans hW)) ?_
 go_simp
 refine ZeX 12 (f:=63) (args:= #[.agg #[.int .i64 r0,.int .i64 r1,.int .i64 r2,.int .i64 r3,.slice base n cap]]) (v:= .int .i64 f) (by kernel_rfl) rfl (by kernel_rfl) rfl (fun W=>by simp[go_sem,execOp,Act.eval]) (fun W hW=>h63 W (hE.trans hW)) ?_
 go_simp
 refine ZeB [13,14] (by kernel_rfl) (by kernel_rfl) ?_
 simp only[ZeD,List.getElem?_cons_succ,List.getElem?_cons_zero,List.cons_append,List.nil_append]
 repeat (go_big_quiet_step (fail))
 refine wpQuiet_nil ?_
 refine Zf6 (by kernel_rfl) (fun W hW=> ?_)
 have hE2:=hE.trans hW
 replace hr:=hW.get hr
 clear hE hW q0 q1 q2 q3 q4 g0 g1 g2 g3 g4 hx hy zx zy a0 a1 b0 b1
 obtain⟨q0,q1,q2,q3,q4⟩:=Zh3 hr
 go_wp2_with (first
  |(go_at_call 64;refine(h64 _ hE2).mono ?_;rintro e w6 ⟨rfl,hF⟩
    replace hr:=hF.get hr;replace hE2:=hE2.trans hF
    clear q0 q1 q2 q3 q4 hF
    obtain⟨q0,q1,q2,q3,q4⟩:=Zh3 hr)
  |(go_at_call 65;refine(h65 _ hE2).mono ?_;rintro e w7 ⟨rfl,hF⟩
    replace hr:=hF.get hr;replace hE2:=hE2.trans hF
    clear q0 q1 q2 q3 q4 hF
    obtain⟨q0,q1,q2,q3,q4⟩:=Zh3 hr)
  |(go_at_call 66;refine(h66 _ hE2).mono ?_;rintro e w8 ⟨bl1,cl1,rfl,hI1,hF⟩
    replace hr:=hF.get hr;replace hE2:=hE2.trans hF
    clear q0 q1 q2 q3 q4 hF
    obtain⟨q0,q1,q2,q3,q4⟩:=Zh3 hr)
  |(go_at_call 67;refine(h67 _ hE2).mono ?_;rintro e w9 ⟨bl2,cl2,rfl,hI2,hF⟩
    replace hr:=hF.get hr;replace hE2:=hE2.trans hF;replace hI1:=hI1.ext hF
    clear q0 q1 q2 q3 q4 hF
    obtain⟨q0,q1,q2,q3,q4⟩:=Zh3 hr)
  |(go_at_call 58;(with_reducible refine(Z1d bl1 C.length cl1 C bl2 C.length cl2 C _ rfl rfl ⟨hCl,hCl⟩ hI1 hI2).mono ?_);rw[decide_eq_true rfl];rintro e w10 ⟨rfl,hF⟩
    replace hr:=hF.get hr;replace hE2:=hE2.trans hF
    clear q0 q1 q2 q3 q4 hF hI1 hI2
    obtain⟨q0,q1,q2,q3,q4⟩:=Zh3 hr)
  |(go_at_call 68;refine(h68 _ hE2).mono ?_;rintro e w11 ⟨bl3,cl3,rfl,hI3,hF⟩
    replace hr:=hF.get hr;replace hE2:=hE2.trans hF
    clear q0 q1 q2 q3 q4 hF
    obtain⟨q0,q1,q2,q3,q4⟩:=Zh3 hr)
  |(go_at_call 69;refine(h69 _ hE2).mono ?_;rintro e w12 ⟨bl4,cl4,rfl,hI4,hF⟩
    replace hr:=hF.get hr;replace hE2:=hE2.trans hF;replace hI3:=hI3.ext hF
    clear q0 q1 q2 q3 q4 hF
    obtain⟨q0,q1,q2,q3,q4⟩:=Zh3 hr)
  |(go_at_call 58;(with_reducible refine(Z1d bl3 T.length cl3 T bl4 T.length cl4 T _ rfl rfl ⟨hTl,hTl⟩ hI3 hI4).mono ?_);rw[decide_eq_true rfl];rintro e w13 ⟨rfl,hF⟩
    replace hE2:=hE2.trans hF
    clear hF)
  |(go_at_call 22;refine(hsh _ hE2).mono ?_;rintro e w14 ⟨rfl,hF⟩))
 go_ret
 exact rfl
theorem ZhW(r0 r1 r2 r3 k:Int)(base:Option Addr)(n cap:Nat)(S:List Rs)(w:World)(hlen:S.length=n)(hM:Meas w)(hmo:Most w)(hd:Deb w)(hS:RawS w base S):
 Calls prog 12 #[.agg #[.int .i64 r0,.int .i64 r1,.int .i64 r2,.int .i64 r3,.slice base n cap],.int .i64 k] w fun e w'=>e= .returned (.bool true):=by
 have hsh:∀W,Ext w W→Calls prog 22 #[] W fun e w'=>e= .returned (.bool true)∧Ext W w':=fun W (hW:Ext w W)=>Zce W (hM.ext hW) (hmo.ext hW) (hd.ext hW)
 by_cases hn:20<n
 ·exact ZhZ r0 r1 r2 r3 k base n cap w hn hsh
 ·have hn:n≤20:=by omega
  have hck:=fun W (hW:Ext w W)=>Z0U r0 r1 r2 r3 base n cap S W hlen (hS.ext hW)
  simp only[Zh] at hck
  have hsmall:∀l:List Int,(∃s:List Int,l.Sublist s∧s.length≤9)→l.length≤1000000:=fun l ⟨s,h1,h2⟩=>by have:=h1.length_le;omega
  have hlc:(if ZC r0 r1 r2 r3 S=0 then Zes r0 r1 r2 r3 S else[]).length≤1000000∧(if ZC r0 r1 r2 r3 S=0 then Zcy r0 r1 r2 r3 S else[]).length≤1000000:=by
   by_cases h:ZC r0 r1 r2 r3 S=0
   ·rw[if_pos h,if_pos h,←Zc5 (Zav h),←Zc6 (Zav h)]
    refine⟨?_,?_⟩
    ·rw[Z7L,List.length_map];exact Nat.le_trans (Zi0 _) (by omega)
    ·rw[Z7M,List.length_map];exact Nat.le_trans (Zi0 _) (by omega)
   ·rw[if_neg h,if_neg h];simp
  have hfit:(ZC r0 r1 r2 r3 S==0&&Zz (cvS r0 r1 r2 r3 (S.map Ze)) (2 ^ n - 1) n)=(ZC r0 r1 r2 r3 S==0&&Z20 r0 r1 r2 r3 S (upL n)):=by
   by_cases h:ZC r0 r1 r2 r3 S=0
   ·have hc:=Zav h
    have h1:1≤2 ^ S.length:=Nat.one_le_two_pow
    have:=Z6X hc (k:=2 ^ S.length - 1) (by omega)
    rw[Zi6 hc.len,hlen] at this
    rw[powc,this]
   ·have:(ZC r0 r1 r2 r3 S==0)=false:=by simpa using h
    rw[this,Bool.false_and,Bool.false_and]
  refine Zi3 r0 r1 r2 r3 k base n cap w (Zau r0 r1 r2 r3 S k).1 (Zau r0 r1 r2 r3 S k).2 (ZC r0 r1 r2 r3 S) (Z1e r0 r1 r2 r3 S k) (ZC r0 r1 r2 r3 S==0&&Z20 r0 r1 r2 r3 S (upL n)) _ _ hn hlc.1 hlc.2
   (fun W hW=>Z69 r0 r1 r2 r3 base n cap S k W hlen hn (hS.ext hW)) (fun W hW=>Zi4 r0 r1 r2 r3 base n cap S k W hlen hn (hS.ext hW)) hck (fun W hW=>ZfQ r0 r1 r2 r3 base n cap S W hlen (hS.ext hW))
   (fun W hW=> ?_) (fun W hW=>Zi5 r0 r1 r2 r3 base n cap S W hlen (hS.ext hW)) (fun W hW=> ?_) (fun W hW=>Zi2 r0 r1 r2 r3 base n cap S W hlen (hS.ext hW)) (fun W hW=> ?_) (fun W hW=>Zi1 r0 r1 r2 r3 base n cap S W hlen (hS.ext hW)) hsh
  ·rw[←hfit]
   exact ZhY r0 r1 r2 r3 base n cap S W hlen (hS.ext hW) (hmo.ext hW)
  ·refine(Zas r0 r1 r2 r3 base n cap S W hlen (hS.ext hW) (hmo.ext hW) (hd.ext hW)).mono ?_
   rintro e w2 ⟨v,rfl,h1,hE⟩
   have e1:(if ZC r0 r1 r2 r3 S=0 then Z7L r0 r1 r2 r3 S else[])=(if ZC r0 r1 r2 r3 S=0 then Zes r0 r1 r2 r3 S else[]):=by
    split
    ·rename_i h;exact Zc5 (Zav h)
    ·rfl
   rw[e1] at h1
   obtain⟨bl,cl,rfl,hI,_⟩:=h1.rawI
   exact⟨bl,cl,rfl,hI,hE⟩
  ·refine(Zat r0 r1 r2 r3 base n cap S W hlen (hS.ext hW) (hmo.ext hW) (hd.ext hW)).mono ?_
   rintro e w2 ⟨v,rfl,h1,hE⟩
   have e1:(if ZC r0 r1 r2 r3 S=0 then Z7M r0 r1 r2 r3 S else[])=(if ZC r0 r1 r2 r3 S=0 then Zcy r0 r1 r2 r3 S else[]):=by
    split
    ·rename_i h;exact Zc6 (Zav h)
    ·rfl
   rw[e1] at h1
   obtain⟨bl,cl,rfl,hI,_⟩:=h1.rawI
   exact⟨bl,cl,rfl,hI,hE⟩
end Go.Proofs.Tryq
section
set_option maxRecDepth 100000
namespace Go.Proofs.YtedkbdkbbnemlaaGreatDoor
open Go
namespace JarrowShots
theorem k0:Rows.arrowShotsRow.wf (OpenSpec.ofChange Rows.arrowShotsSpec)=true:=by kernel_rfl
theorem k1:laidOutB Tryz.prog=true:=by kernel_rfl
theorem k2:mapsRowed Tryz.prog=true:=by kernel_rfl
theorem k3:Tryz.f12.params.all (Tryz.prog.readableRec ·)=true:=by kernel_rfl
theorem k4:namedTie Tryz.prog Rows.arrowShotsRow.named Rows.arrowShotsSpec.vars=true:=by kernel_rfl
theorem k5:(Rows.arrowShotsRow.stops==[])=true:=by kernel_rfl
theorem k6:(Tryz.prog.stops==[])=true:=by kernel_rfl
theorem k7:(Rows.arrowShotsRow.knobs==[])=true:=by kernel_rfl
theorem k8:(Tryz.prog.stopKnobs==[])=true:=by kernel_rfl
theorem k9:(Rows.arrowShotsRow.inPlace==Tryz.prog.inPlace 12)=true:=by kernel_rfl
theorem k10:(Rows.arrowShotsRow.unfollowed==Tryz.prog.unfollowed 12)=true:=by kernel_rfl
theorem k11:(Rows.arrowShotsRow.recurses==Tryz.prog.recurses 12)=true:=by kernel_rfl
theorem k12:(Rows.arrowShotsRow.named==Tryz.prog.varsNamed 12)=true:=by kernel_rfl
theorem k13:(Rows.arrowShotsRow.maps==(Tryz.f12.params.toList++Rows.arrowShotsSpec.plain.varTypes Tryz.prog).any (Tryz.prog.mapsRec ·))=true:=by kernel_rfl
theorem k14:(Rows.arrowShotsRow.ifaces==(Tryz.f12.params.toList++Rows.arrowShotsSpec.plain.varTypes Tryz.prog).any (Tryz.prog.ifacesRec ·))=true:=by kernel_rfl
theorem k15:(Rows.arrowShotsRow.mapsOut==Tryz.prog.mapsAmong Tryz.f12.resultTypes.toList)=true:=by kernel_rfl
theorem k16:(Rows.arrowShotsRow.loops==(Tryz.f12.params.toList++Rows.arrowShotsSpec.plain.varTypes Tryz.prog).any (Tryz.prog.loopsFrom ·))=true:=by kernel_rfl
theorem k17:(Rows.arrowShotsRow.wideKeys==(Tryz.f12.params.toList++Rows.arrowShotsSpec.plain.varTypes Tryz.prog++Tryz.f12.resultTypes.toList).any (Tryz.prog.wideKeysFrom ·))=true:=by kernel_rfl
theorem k18:Rows.arrowShotsSpec.vars.all (Tryz.prog.varReadable ·)=true:=by kernel_rfl
theorem k19:Tryz.f12.resultTypes.all (fun t=>Tryz.prog.readableRec t&&decide (t<Tryz.prog.types.size))=true:=by kernel_rfl
theorem k20:(Rows.arrowShotsRow.ifacesOut==Tryz.f12.resultTypes.toList.any (Tryz.prog.ifacesRec ·))=true:=by kernel_rfl
theorem k21:(Rows.arrowShotsRow.loopsOut==Tryz.f12.resultTypes.toList.any (Tryz.prog.loopsFrom ·))=true:=by kernel_rfl
theorem k22:(Rows.arrowShotsRow.plainKeys==Tryz.prog.plainKeys)=true:=by kernel_rfl
theorem k23:Rows.arrowShotsRow.shortTexts.isNone=true:=by kernel_rfl
theorem k24:Tryz.prog.stopsHeard=true:=by kernel_rfl
theorem k25:Tryz.prog.mayEnter=true:=by kernel_rfl
theorem k26:(Rows.arrowShotsRow.lifted==Tryz.prog.liftsFinal)=true:=by kernel_rfl
theorem k27:(Tryz.prog.make==some Rows.arrowShotsRow.make)=true:=by kernel_rfl
theorem k28:(Rows.arrowShotsRow.kinds==(if Rows.arrowShotsRow.domain.isEmpty then[] else Tryz.f12.params.toList.map fun t=>match Tryz.prog.underlying t with|some (.int k)=>some k|_=>none))=true:=by kernel_rfl
theorem k29:(Rows.arrowShotsRow.pinned==Rows.arrowShotsRow.pinnedBy)=true:=by kernel_rfl
theorem k30:(Rows.arrowShotsRow.veiled==(Tryz.f12.params.toList++Rows.arrowShotsSpec.plain.varTypes Tryz.prog++Tryz.f12.resultTypes.toList).any (Tryz.prog.veiledRec ·))=true:=by kernel_rfl
theorem k31:Rows.arrowShotsRow.veiledFits Tryz.prog Tryz.f12.params.toList (Tryz.f12.params.toList++Rows.arrowShotsSpec.plain.varTypes Tryz.prog++Tryz.f12.resultTypes.toList)=true:=by kernel_rfl
theorem ZI{a b:Bool}(ha:a=true)(hb:b=true):(a&&b)=true:=by rw[ha,hb];rfl
theorem facts:joinedFacts Tryz.prog 12 Tryz.f12 Rows.arrowShotsSpec Rows.arrowShotsRow=true:=(ZI (ZI (ZI (ZI (ZI (ZI (ZI (ZI (ZI (ZI (ZI (ZI (ZI (ZI (ZI (ZI (ZI (ZI (ZI (ZI (ZI (ZI (ZI (ZI (ZI (ZI (ZI (ZI (ZI (ZI (ZI k0 k1) k2) k3) k4) k5) k6) k7) k8) k9) k10) k11) k12) k13) k14) k15) k16) k17) k18) k19) k20) k21) k22) k23) k24) k25) k26) k27) k28) k29) k30) k31)
end JarrowShots
end Go.Proofs.YtedkbdkbbnemlaaGreatDoor
end
namespace Go.Proofs.Tryq
set_option maxRecDepth 100000
open Go Go.Nk Go.RowKit Go.ChangeShapes Go.WideShapes Go.ChangeAt Go.Conc Go.Deep
attribute [local instance] theBan
section
variable {H:Type} {enc:TypeId×Value→H} {W:World} {b0:Nat}
theorem Zf4{t:TypeId}{k:IntKind}(hu:Tryz.prog.underlying t=some (.int k))(hs:isS Tryz.prog t=false)(ha:isA Tryz.prog t=false)(hl:(Z3e Tryz.prog 0 t 0).any (fun y=>y.1==0&&y.2==t)=true)(hc1:Tryz.prog.cellsOf t=1){v:Value}{d:DataW H}{p:List MemPlace}(hv:Value.okWide Tryz.prog W .any b0 t v)(h:DataW.Trod enc Tryz.prog W 0 (fun _=>true) true t v d p):
 ∃n:Int,v= .int k n∧(Lit.int k n).wf=true∧VRel id (Nk.Live (Zx W)) v v:=by
 have hc:=Zei hv hs ha
 obtain⟨fuel,hf⟩:=h
 have e:v.cells.toList=[v]:=by
  cases v<;>first|rfl|skip
  rename_i cs
  simp[Cell.okWide,Cell.ok,hu] at hc
 rw[e] at hf
 have hcs:[v].length≤Tryz.prog.cellsOf t:=by rw[hc1];exact Nat.le_refl _
 obtain⟨x1,e1,hw⟩:=Z0z (n:=0) (o:=0) (u:=t) hcs ⟨_,_,hf⟩ hl hu
 obtain rfl:v= .int k x1:=by simpa using e1
 exact⟨x1,rfl,hw,.int _ _⟩
theorem ZhO{v:Value}{d:DataW H}{p:List MemPlace}(hv:Value.okWide Tryz.prog W .any b0 3 v)(h:DataW.Trod enc Tryz.prog W 0 (fun _=>true) true 3 v d p):∃n:Int,v= .int .i64 n∧(Lit.int .i64 n).wf=true∧VRel id (Nk.Live (Zx W)) v v:=
 Zf4 under3 (by kernel_rfl) (by kernel_rfl) (by kernel_rfl) (by kernel_rfl) hv h
theorem under68:Tryz.prog.underlying 68=some (.slice 80):=by kernel_rfl
theorem cells80:Tryz.prog.cellsOf 80=5:=by kernel_rfl
theorem cells70:Tryz.prog.cellsOf 70=5:=by kernel_rfl
theorem Zg3{v:Value}{k:Nat}{x:DataW H×List MemPlace}(hv:∃u,Cell.okWide Tryz.prog W .any b0 u v)(h:DataW.trod enc Tryz.prog W 0 (fun _=>true) true k 68 [v]=some x):
 ∃(base:Option Addr)(n cap:Nat)(S:List Rs),v= .slice base n cap∧S.length=n∧n≤cap∧cap≤maxLen∧VRel id (Nk.Live (Zx W)) v v∧RawS W base S∧∀s∈S,(Lit.int .i64 s.a).wf=true∧(Lit.int .i64 s.m).wf=true∧(Lit.int .i64 s.M).wf=true∧(Lit.int .i64 s.wi).wf=true∧(Lit.int .i64 s.li).wf=true:=by
 obtain⟨base,n,cap,e,hn,hm,hr,hel⟩:=Z5V under68 cells80 (by decide) hv h
 have key:∀i,i<n→∃s:Rs,(∃b off,base=some ⟨b,off,none⟩∧b<W.heap.size∧ShotAt W b (off+i*5) s.a s.m s.M s.wi s.li)∧((Lit.int .i64 s.a).wf=true∧(Lit.int .i64 s.m).wf=true∧(Lit.int .i64 s.M).wf=true∧(Lit.int .i64 s.wi).wf=true∧(Lit.int .i64 s.li).wf=true):=by
  intro i hi
  obtain⟨b,off,h1,h2,cs,h3,h4,h5⟩:=hel i hi
  have hcs:cs.length≤Tryz.prog.cellsOf 80:=by rw[cells80];omega
  obtain⟨x0,e0,w0⟩:=Z0z (n:=3) (o:=0) (u:=3) hcs h5 (by kernel_rfl) under3
  obtain⟨x1,e1,w1⟩:=Z0z (n:=3) (o:=1) (u:=3) hcs h5 (by kernel_rfl) under3
  obtain⟨x2,e2,w2⟩:=Z0z (n:=3) (o:=2) (u:=3) hcs h5 (by kernel_rfl) under3
  obtain⟨x3,e3,w3⟩:=Z0z (n:=3) (o:=3) (u:=3) hcs h5 (by kernel_rfl) under3
  obtain⟨x4,e4,w4⟩:=Z0z (n:=3) (o:=4) (u:=3) hcs h5 (by kernel_rfl) under3
  exact⟨⟨x0,x1,x2,x3,x4⟩,⟨b,off,h1,h2,⟨(h4 0 (by omega)).trans e0,(h4 1 (by omega)).trans e1,(h4 2 (by omega)).trans e2,(h4 3 (by omega)).trans e3,(h4 4 (by omega)).trans e4⟩⟩,w0,w1,w2,w3,w4⟩
 obtain⟨L,hL1,hL2⟩:=Zaa n key
 exact⟨base,n,cap,L,e,hL1,hn,hm,hr,fun i x hx=>(hL2 i x hx).1,fun s hs=>by obtain⟨i,hi⟩:=List.mem_iff_getElem?.1 hs;exact(hL2 i s hi).2⟩
theorem open_card{v:Value}{d:DataW H}{p:List MemPlace}(hv:Value.okWide Tryz.prog W .any b0 70 v)(h:DataW.Trod enc Tryz.prog W 0 (fun _=>true) true 70 v d p):
 ∃(r0 r1 r2 r3:Int)(base:Option Addr)(n cap:Nat)(S:List Rs),v= .agg #[.int .i64 r0,.int .i64 r1,.int .i64 r2,.int .i64 r3,.slice base n cap]∧S.length=n∧n≤cap∧cap≤maxLen∧VRel id (Nk.Live (Zx W)) v v∧RawS W base S∧
  ((Lit.int .i64 r0).wf=true∧(Lit.int .i64 r1).wf=true∧(Lit.int .i64 r2).wf=true∧(Lit.int .i64 r3).wf=true)∧∀s∈S,(Lit.int .i64 s.a).wf=true∧(Lit.int .i64 s.m).wf=true∧(Lit.int .i64 s.M).wf=true∧(Lit.int .i64 s.wi).wf=true∧(Lit.int .i64 s.li).wf=true:=by
 obtain⟨cs,rfl,hs,hx⟩:=aggOk hv (by kernel_rfl)
 obtain⟨fuel,hf⟩:=h
 have hf:DataW.trod enc Tryz.prog W 0 (fun _=>true) true fuel 70 cs.toList=some (d,p):=hf
 rw[cells70] at hs
 have hcs:cs.toList.length≤Tryz.prog.cellsOf 70:=by rw[cells70];simp[hs]
 obtain⟨x0,e0,w0⟩:=Z0z (n:=2) (o:=0) (u:=3) hcs ⟨_,_,hf⟩ (by kernel_rfl) under3
 obtain⟨x1,e1,w1⟩:=Z0z (n:=2) (o:=1) (u:=3) hcs ⟨_,_,hf⟩ (by kernel_rfl) under3
 obtain⟨x2,e2,w2⟩:=Z0z (n:=2) (o:=2) (u:=3) hcs ⟨_,_,hf⟩ (by kernel_rfl) under3
 obtain⟨x3,e3,w3⟩:=Z0z (n:=2) (o:=3) (u:=3) hcs ⟨_,_,hf⟩ (by kernel_rfl) under3
 obtain⟨sv,m,y,e4,h4⟩:=Z7R (n:=2) (o:=4) (u:=68) hcs ⟨_,_,hf⟩ (by kernel_rfl) under68
 obtain⟨base,n,cap,S,rfl,hL,hn,hm,hr,hR,hw⟩:=Zg3 (hx 4 sv (by simpa using e4)) h4
 have hcs5:=arr5 hs e0 e1 e2 e3 e4
 subst hcs5
 have hA:AR id (Nk.Live (Zx W)) #[.int .i64 x0,.int .i64 x1,.int .i64 x2,.int .i64 x3,.slice base n cap] #[.int .i64 x0,.int .i64 x1,.int .i64 x2,.int .i64 x3,.slice base n cap]:=
  ((((AR.nil.push (.int _ _)).push (.int _ _)).push (.int _ _)).push (.int _ _)).push hr
 exact⟨x0,x1,x2,x3,base,n,cap,S,rfl,hL,hn,hm,.agg hA.1 hA.2,hR,⟨w0,w1,w2,w3⟩,hw⟩
end
theorem ZfV{W:World}{base:Option Addr}{S:List Rs}(h:RawS W base S):RawS (Zx W) base S:=fun i x hi=>by
 obtain⟨b,off,h1,h2,h3⟩:=h i x hi
 exact⟨b,off,h1,by rw[Z1l];exact h2,⟨Z0d rfl h3.c0 rfl,Z0d rfl h3.c1 rfl,Z0d rfl h3.c2 rfl,Z0d rfl h3.c3 rfl,Z0d rfl h3.c4 rfl⟩⟩
theorem Zg8{W:World}(t){base:Option Addr}{S:List Rs}(h:RawS W base S):RawS (retape t W) base S:=fun i x hi=>by
 obtain⟨b,off,h1,h2,h3⟩:=h i x hi
 exact⟨b,off,h1,h2,⟨h3.c0,h3.c1,h3.c2,h3.c3,h3.c4⟩⟩
end Go.Proofs.Tryq
namespace Go.Proofs.YtedkbdkbbnemlaaGreatDoor
set_option maxRecDepth 100000
open Go Go.Nk Go.RowKit Go.ChangeShapes Go.WideShapes Go.ChangeAt Go.Conc
open Go.Proofs.Tryq
attribute [local instance] theBan
theorem ZhV(os:Os)(started:os.Started)(H:Type)(enc:TypeId×Value→H):
 ReturnsInLeavingWide {} Tryz.checked os 12 .any (fun w args=>(Rows.arrowShotsSpec.pre enc Tryz.prog Tryz.f12 [] false w args∧laidMetH Tryz.prog laidL w)∧sizedMet enc Tryz.prog Tryz.f12 (OpenSpec.ofChange Rows.arrowShotsSpec) false w args)
  (Rows.arrowShotsSpec.post enc Tryz.prog Tryz.f12 false true false false):=by
 refine Z4e (n:=2) (ts:=[70,3]) started (by simp[keptList]) Tryz.func12 same12 (by kernel_rfl) Tryz.results12 (by kernel_rfl) (by rw[Tryz.params12]) rfl rfl (by kernel_rfl) (fun ds hd=>by
  match ds,hd with
  |[_,_],_=>rfl) (by kernel_rfl)
  (ChangeSpec.witness_shaped (enc:=enc) (C:=Tryz.checked) (os:=os) (X:=fun w _=>laidMetH Tryz.prog laidL w) false (World.doorLaid Tryz.prog 400 os) #[.agg #[.int .i64 0,.int .i64 0,.int .i64 0,.int .i64 0,.slice none 0 0],.int .i64 0] 8 rfl (Z3F os _) (by kernel_rfl) (by kernel_rfl) (by kernel_rfl) (Z7C os _)) ?_
 intro W base args ds p hval hA hM hmo hd
 rw[Tryz.params12] at hval
 obtain⟨v0,v1,dx0,dx1,px0,px1,rfl,rfl,rfl,h0,h1⟩:=trodAll_two hA
 obtain⟨a0,b0,c0,d0,ab0,n0,k0,S0,rfl,hL0,hn0,hc0,hr0,hS0,hw0,hx0⟩:=open_card (hval 0 70 v0 rfl rfl) h0
 obtain⟨u1,rfl,hw1,hr1⟩:=ZhO (hval 1 3 v1 rfl rfl) h1
 refine⟨(AR.nil.push hr0).push hr1,fun t=> ?_⟩
 exact ZhW a0 b0 c0 d0 u1 ab0 n0 k0 S0 (retape t (Zx W)) hL0 hM (Za7 t hmo) hd (Zg8 t (ZfV hS0))
theorem arrowShots_row:Rows.ArrowShotsSaid:=
 OpenClaim.holds_of_wide_leaving 12 Tryz.f12 rfl rfl rfl rfl rfl rfl rfl ⟨rfl,rfl,rfl,rfl,rfl⟩ rfl rfl rfl rfl rfl (by kernel_rfl) Tryz.func12 JarrowShots.facts
  (of_decide_eq_true (by kernel_rfl)) (by unfold Func.isWrapper;first|(rw[if_pos (by decide+kernel)];kernel_rfl)|(rw[if_neg (by decide+kernel)];exact⟨rfl,rfl⟩))
  (fun os started H enc _=>ZhV os started H enc)
theorem arrowShots_card:Rows.ArrowShotsCardSaid:=
 Zac .later [.data,.data,.data,.funcs] true (true,"0e1059176c690520e63ed0d32383d6ff1680ebd08dcb3a61820afc84c46f7b58") false
  arrowShots_row (by kernel_rfl) arrowShots_row_tie rfl ⟨rfl,rfl⟩ (by kernel_rfl) rfl
  (fun f fn hf hfn=>by
    obtain rfl:f=12:=Option.some.inj ((show Tryz.prog.funcNamed "nock/nocklaw01.ArrowShots" =some 12 by kernel_rfl).symm.trans hf) |>.symm
    obtain rfl:fn=Tryz.f12:=(Option.some.inj (Tryz.func12.symm.trans hfn)).symm
    exact⟨by kernel_rfl,fun j t ht=>by
     rw[Tryz.params12] at ht
     have hm:t∈[70,3]:=by simpa using Array.mem_of_getElem? ht
     have hall:([70,3].all fun u=> !Tryz.prog.wantsStandIn u)=true:=by kernel_rfl
     exact(show Tryz.prog.wantsStandIn t=false by simpa using List.all_eq_true.1 hall t hm)⟩)
  (by kernel_rfl)
end Go.Proofs.YtedkbdkbbnemlaaGreatDoor
