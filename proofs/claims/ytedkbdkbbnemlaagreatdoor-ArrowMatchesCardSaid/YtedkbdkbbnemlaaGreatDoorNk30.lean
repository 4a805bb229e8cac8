import Derived.Test.YtedkbdkbbnemlaaGreatDoorNk29
set_option linter.all false
namespace Go.Proofs.Tryq
set_option maxRecDepth 100000
set_option maxHeartbeats 8000000
open Go Go.Nk Go.RowKit
theorem apsB_refl:∀A:List Ap,apsB A A=true
 |[]=>rfl
 |x::A=>by rw[apsB,apsB_refl A,Bool.and_true];simp[apB]
theorem Z8M{a b c m:Int}{L:List Sf}{l:List Int}(h:l.length≤100):(Z0Q a b c m L l).length≤30000:=by
 unfold Z0Q
 split
 ·have h2:=Z3K a b c L 100 l h
  have:3*100*l.length≤30000:=by omega
  omega
 ·simp
theorem Z1C(a b c m:Int)(base:Option Addr)(n cap:Nat)(L:List Sf)(bl:Option Addr)(k cl:Nat)(l:List Int)(w:World)(hlen:L.length=n)(hk:l.length=k)(hkc:k≤cl)(hkm:k≤maxLen)(hM:Meas w)(hmo:Most w)(hd:Deb w)(hS:RawA w base L)(hl:RawI w bl l):
 Calls prog 3 #[.agg #[.int .i64 a,.int .i64 b,.int .i64 c,.int .i64 m,.slice base n cap],.slice bl k cl] w fun e w'=>e= .returned (.bool true)∧Ext w w':=by
 unfold maxLen at hkm
 have hgr:=fun W hW=>ZaR a b c m base n cap L W hlen (hS.ext hW)
 have hsh:=fun W (hW:Ext w W)=>Zce W (hM.ext hW) (hmo.ext hW) (hd.ext hW)
 cases hg:Z1B L with
 |true=>
  simp only[hg] at hgr
  clear hg
  go_enter func3,ntmps3
  go_wp2_with (first
   |(go_at_call 21;refine(hgr _ ((Ext.rfl' w).alloc _)).mono ?_;rintro e w2 ⟨rfl,hE2⟩
     have hE3:=((Ext.rfl' w).alloc _).trans hE2)
   |(go_at_call 22;refine(hsh _ hE3).mono ?_;rintro e w3 ⟨rfl,hE4⟩))
  go_ret
  exact⟨rfl,hE3.trans hE4⟩
 |false=>
  simp only[hg] at hgr
  have hn:n≤20:=by
   rw[←hlen]
   simp only[Z1B,Bool.or_eq_false_iff,decide_eq_false_iff_not] at hg
   omega
  clear hg
  by_cases h20:20<k
  ·have hk20:(20:Int)<(k:Int):=by omega
   go_enter func3,ntmps3
   go_wp2_with (first
    |(go_at_call 21;refine(hgr _ ((Ext.rfl' w).alloc _)).mono ?_;rintro e w2 ⟨rfl,hE2⟩
      have hE3:=((Ext.rfl' w).alloc _).trans hE2)
    |(go_at_call 22;refine(hsh _ hE3).mono ?_;rintro e w3 ⟨rfl,hE4⟩))
   go_ret
   exact⟨rfl,hE3.trans hE4⟩
  ·have hk20:(k:Int)≤20:=by omega
   have hk2:k≤100:=by omega
   have hm1:=fun W hW=>Z5Y a b c m base n cap L bl k cl l W hlen hn hk hkc hk2 (hM.ext hW) (hS.ext hW) (hl.ext hW)
   have hm2:=fun W hW=>Z8K a b c m base n cap L bl k cl l W hlen hn hk hk2 (hS.ext hW) (hl.ext hW)
   have hc1:=fun W hW=>Z24 a b c m base n cap L W hlen (hM.ext hW) (hS.ext hW)
   have hc2:=fun W hW=>Z1P a b c m base n cap L W hlen (by omega) (hS.ext hW)
   have ha1:=fun W hW=>Z5Z a b c m base n cap L bl k cl l W hlen hn hk hkc hk2 (hM.ext hW) (hS.ext hW) (hl.ext hW)
   have ha2:=fun W hW=>Z8L a b c m base n cap L bl k cl l W hlen hn hk hk2 (hS.ext hW) (hl.ext hW)
   have hAl:(Z0Q a b c m L l).length≤30000:=Z8M (by omega)
   have hsa:=fun a1 c1 a2 c2 W h1 h2=>Z25 a1 _ c1 (Z0Q a b c m L l) a2 _ c2 (Z0Q a b c m L l) W rfl rfl (by omega) h1 h2
   simp only[apsB_refl] at hsa
   generalize Z1M a b c m L l=MF at hm1 hm2
   generalize Zo a b c m L l=OF at hm1 hm2 ha1 ha2
   generalize Zp a b c m L=SF at hc1 hc2
   generalize Z0Q a b c m L l=AF at ha1 ha2 hsa hAl
   go_enter func3,ntmps3
   go_wp2_with (first
    |(go_at_call 21;refine(hgr _ ((Ext.rfl' w).alloc _)).mono ?_;rintro e w2 ⟨rfl,hE2⟩
      have hE3:=((Ext.rfl' w).alloc _).trans hE2
      have g2:=hE2.get ((Z3 _ _ _).trans (if_pos rfl))
      have q0:=Z0 g2 0;have q1:=Z0 g2 1;have q2:=Z0 g2 2;have q3:=Z0 g2 3;have q4:=Z0 g2 4
      simp only[List.getElem?_toArray,List.getElem?_cons_zero,List.getElem?_cons_succ] at q0 q1 q2 q3 q4)
    |(go_at_call 23;refine(hm1 _ hE3).mono ?_;rintro e w3 ⟨rfl,hE4⟩
      have hE5:=hE3.trans hE4
      have g3:=hE4.get g2
      clear q0 q1 q2 q3 q4
      have q0:=Z0 g3 0;have q1:=Z0 g3 1;have q2:=Z0 g3 2;have q3:=Z0 g3 3;have q4:=Z0 g3 4
      simp only[List.getElem?_toArray,List.getElem?_cons_zero,List.getElem?_cons_succ] at q0 q1 q2 q3 q4)
    |(go_at_call 24;refine(hm2 _ hE5).mono ?_;rintro e w4 ⟨rfl,hE6⟩
      have hE7:=hE5.trans hE6
      have g4:=hE6.get g3
      clear q0 q1 q2 q3 q4
      have q0:=Z0 g4 0;have q1:=Z0 g4 1;have q2:=Z0 g4 2;have q3:=Z0 g4 3;have q4:=Z0 g4 4
      simp only[List.getElem?_toArray,List.getElem?_cons_zero,List.getElem?_cons_succ] at q0 q1 q2 q3 q4))
   clear hgr hm1 hm2 hE2 hE3 hE4 hE5 hE6
   refine Z03 (by kernel_rfl) (by kernel_rfl) (RI 69 [some 31,some 32,some 33,some 34,some 35,some 36,some 37,some 38,some 39,some 40,some 41,some 42,some 43,some 44,some 45] [some (.int .i64 MF),some (.int .i64 MF),some (.bool false),some (.bool false),some (.int .i64 OF),some (.int .i64 OF),some (.bool false),some (.bool false),some (.bool false),some (.agg #[.int .i64 a,.int .i64 b,.int .i64 c,.int .i64 m,.slice base n cap]),some (.int .i64 SF),some (.agg #[.int .i64 a,.int .i64 b,.int .i64 c,.int .i64 m,.slice base n cap]),some (.int .i64 SF),some (.bool false),some (.bool false)] _ (Sxs w4 [])) (RI.start rfl rfl (Sxs.start w4 _ _)) (AllIx.arr ⟨?_,?_,?_,?_,?_,?_,?_,?_,?_,?_,?_,?_,?_,?_,?_,trivial⟩) ?_
   ·intro ℓ aq W hl hp h
    have e5:aq.tmps.getD 5 undef= .int .i64 MF:=h.at_out 5 rfl
    exact h.dg (hg:=Z4 rfl) (r:=by simp[go_sem,execOp,Act.eval,e5]) (m:=h.mem.k)
   ·intro ℓ aq W hl hp h
    have e7:aq.tmps.getD 7 undef= .int .i64 MF:=h.at_out 7 rfl
    exact h.dg (hg:=Z4 rfl) (r:=by simp[go_sem,execOp,Act.eval,e7]) (m:=h.mem.k)
   ·intro ℓ aq W hl hp h
    have e31:=h.v hp 0 31
    have e32:=h.v hp 1 32
    exact h.dg (hg:=Z4 rfl) (r:=by simp[go_sem,execOp,Act.eval,e31,e32]) (m:=h.mem.k)
   ·intro ℓ aq W hl hp h
    have e33:=h.v hp 2 33
    exact h.dg (hg:=Z4 rfl) (r:=by simp[go_sem,execOp,Act.eval,e33]) (m:=h.mem.k)
   ·intro ℓ aq W hl hp h
    have e6:aq.tmps.getD 6 undef= .int .i64 OF:=h.at_out 6 rfl
    exact h.dg (hg:=Z9 rfl rfl rfl h.size (by decide) (h.v hp 3 34)) (r:=by simp[go_sem,execOp,Act.eval,e6]) (m:=h.mem.k)
   ·intro ℓ aq W hl hp h
    have e8:aq.tmps.getD 8 undef= .int .i64 OF:=h.at_out 8 rfl
    exact h.dg (hg:=Z9 rfl rfl rfl h.size (by decide) (h.v hp 3 34)) (r:=by simp[go_sem,execOp,Act.eval,e8]) (m:=h.mem.k)
   ·intro ℓ aq W hl hp h
    have e35:=h.v hp 4 35
    have e36:=h.v hp 5 36
    exact h.dg (hg:=Z9 rfl rfl rfl h.size (by decide) (h.v hp 3 34)) (r:=by simp[go_sem,execOp,Act.eval,e35,e36]) (m:=h.mem.k)
   ·intro ℓ aq W hl hp h
    have e34:=h.v hp 3 34
    have e37:=h.v hp 6 37
    exact h.dg (hg:=Z4 rfl) (r:=by simp[go_sem,execOp,Act.eval,e34,e37]) (m:=h.mem.k)
   ·intro ℓ aq W hl hp h
    have e38:=h.v hp 7 38
    exact h.dg (hg:=Z4 rfl) (r:=by simp[go_sem,execOp,Act.eval,e38]) (m:=h.mem.k)
   ·intro ℓ aq W hl hp h
    have e2:aq.tmps.getD 2 undef= .pointer (some ⟨w.heap.size,0,none⟩):=h.at_out 2 rfl
    have c0:=h.mem.1.cellS q0
    have c1:=h.mem.1.cellS q1
    have c2:=h.mem.1.cellS q2
    have c3:=h.mem.1.cellS q3
    have c4:=h.mem.1.cellS q4
    exact h.dg (hg:=Z9 rfl rfl rfl h.size (by decide) (h.v hp 8 39)) (r:=by simp[go_sem,execOp,Act.eval,e2,c0,c1,c2,c3,c4]) (m:=h.mem.k)
   ·intro ℓ aq W hl hp h
    have e40:=h.v hp 9 40
    refine h.callG rfl (Z9 rfl rfl rfl h.size (by decide) (h.v hp 8 39)) rfl (by decide) rfl (by decide) (f:=25) (args:= #[.agg #[.int .i64 a,.int .i64 b,.int .i64 c,.int .i64 m,.slice base n cap]]) (by simp[go_sem,execOp,Act.eval,e40]) ?_
    refine(hc1 W (hE7.trans h.mem.1)).mono ?_
    rintro e W' ⟨rfl,hE⟩
    exact⟨.int .i64 SF,rfl,(fun v' hv=>Option.some.inj (Option.some.inj hv)),h.mem.keep hE rfl⟩
   ·intro ℓ aq W hl hp h
    have e2:aq.tmps.getD 2 undef= .pointer (some ⟨w.heap.size,0,none⟩):=h.at_out 2 rfl
    have c0:=h.mem.1.cellS q0
    have c1:=h.mem.1.cellS q1
    have c2:=h.mem.1.cellS q2
    have c3:=h.mem.1.cellS q3
    have c4:=h.mem.1.cellS q4
    exact h.dg (hg:=Z9 rfl rfl rfl h.size (by decide) (h.v hp 8 39)) (r:=by simp[go_sem,execOp,Act.eval,e2,c0,c1,c2,c3,c4]) (m:=h.mem.k)
   ·intro ℓ aq W hl hp h
    have e42:=h.v hp 11 42
    refine h.callG rfl (Z9 rfl rfl rfl h.size (by decide) (h.v hp 8 39)) rfl (by decide) rfl (by decide) (f:=26) (args:= #[.agg #[.int .i64 a,.int .i64 b,.int .i64 c,.int .i64 m,.slice base n cap]]) (by simp[go_sem,execOp,Act.eval,e42]) ?_
    refine(hc2 W (hE7.trans h.mem.1)).mono ?_
    rintro e W' ⟨rfl,hE⟩
    exact⟨.int .i64 SF,rfl,(fun v' hv=>Option.some.inj (Option.some.inj hv)),h.mem.keep hE rfl⟩
   ·intro ℓ aq W hl hp h
    have e41:=h.v hp 10 41
    have e43:=h.v hp 12 43
    exact h.dg (hg:=Z9 rfl rfl rfl h.size (by decide) (h.v hp 8 39)) (r:=by simp[go_sem,execOp,Act.eval,e41,e43]) (m:=h.mem.k)
   ·intro ℓ aq W hl hp h
    have e39:=h.v hp 8 39
    have e44:=h.v hp 13 44
    exact h.dg (hg:=Z4 rfl) (r:=by simp[go_sem,execOp,Act.eval,e39,e44]) (m:=h.mem.k)
   ·intro ℓ aq W hall h
    have hEW:=h.mem.1
    have ea:=Z1z h.defers h.size
    simp only[List.range,List.range.loop,List.map] at ea
    rw[ea]
    clear ea
    rw[(show aq.tmps.getD 1 undef= .slice bl k cl from h.at_out 1 rfl),(show aq.tmps.getD 2 undef= .pointer (some ⟨w.heap.size,0,none⟩) from h.at_out 2 rfl),(show aq.tmps.getD 5 undef= .int .i64 MF from h.at_out 5 rfl),(show aq.tmps.getD 6 undef= .int .i64 OF from h.at_out 6 rfl),(show aq.tmps.getD 7 undef= .int .i64 MF from h.at_out 7 rfl),(show aq.tmps.getD 8 undef= .int .i64 OF from h.at_out 8 rfl),(show aq.tmps.getD 45 undef= .bool false from h.vals 14 45 _ rfl rfl (hall 14 (by decide)))]
    iterate 62 generalize aq.tmps.getD _ undef=u
    clear h hall
    have hE8:=hE7.trans hEW
    have g5:=hEW.get g4
    clear q0 q1 q2 q3 q4 hc1 hc2
    have q0:=Z0 g5 0;have q1:=Z0 g5 1;have q2:=Z0 g5 2;have q3:=Z0 g5 3;have q4:=Z0 g5 4
    simp only[List.getElem?_toArray,List.getElem?_cons_zero,List.getElem?_cons_succ] at q0 q1 q2 q3 q4
    go_wp2_with (first
     |(go_at_call 27;refine(ha1 _ hE8).mono ?_;rintro e w6 ⟨v1,rfl,hv1,hE9⟩
       obtain⟨a1,c1,rfl,hr1⟩:=hv1.rawAp
       have hE10:=hE8.trans hE9
       have g6:=hE9.get g5
       clear q0 q1 q2 q3 q4
       have q0:=Z0 g6 0;have q1:=Z0 g6 1;have q2:=Z0 g6 2;have q3:=Z0 g6 3;have q4:=Z0 g6 4
       simp only[List.getElem?_toArray,List.getElem?_cons_zero,List.getElem?_cons_succ] at q0 q1 q2 q3 q4)
     |(go_at_call 28;refine(ha2 _ hE10).mono ?_;rintro e w7 ⟨v2,rfl,hv2,hE11⟩
       obtain⟨a2,c2,rfl,hr2⟩:=hv2.rawAp
       have hE12:=hE10.trans hE11
       have hr1':=hr1.ext hE11)
     |(go_at_call 29;refine(hsa _ _ _ _ _ hr1' hr2).mono ?_;rintro e w8 ⟨rfl,hE13⟩
       have hE14:=hE12.trans hE13)
     |(go_at_call 22;refine(hsh _ hE14).mono ?_;rintro e w9 ⟨rfl,hE15⟩))
    go_ret
    exact⟨rfl,hE14.trans hE15⟩
end Go.Proofs.Tryq
