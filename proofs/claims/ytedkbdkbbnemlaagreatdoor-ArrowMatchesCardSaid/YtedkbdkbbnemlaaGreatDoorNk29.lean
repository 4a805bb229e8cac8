import Derived.Test.YtedkbdkbbnemlaaGreatDoorNk28
set_option linter.all false
namespace Go.Proofs.Tryq
set_option maxRecDepth 100000
set_option maxHeartbeats 4000000
open Go Go.Nk Go.RowKit
theorem Z26(a b c m:Int)(base:Option Addr)(n cap:Nat)(L:List Sf)(bl:Option Addr)(k cl:Nat)(l:List Int)(w:World)(hlen:L.length=n)(hn:n≤1000000)(hk:l.length=k)(hk2:k≤1000000)(hS:RawA w base L)(hl:RawI w bl l):
 Calls prog 88 #[.agg #[.int .i64 a,.int .i64 b,.int .i64 c,.int .i64 m,.slice base n cap],.slice bl k cl] w fun e w'=>e= .returned (.int .i64 (Zo a b c m L l))∧Ext w w':=by
 have hc:=fun W hW=>Z1P a b c m base n cap L W hlen hn (hS.ext hW)
 have ha:=fun W hW=>Z5a n bl k cl l W hn hk hk2 (hl.ext hW)
 by_cases h0:Zp a b c m L=0
 ·have hF:Zo a b c m L l=Zq n l:=by
   rw[Zo,firstV,if_pos h0]
   simp only[firstV]
   split
   ·rename_i h;rw[←hlen];exact h.symm
   ·rw[hlen]
  rw[hF]
  simp only[h0] at hc
  go_enter func88,ntmps88
  go_wp2_with (first
   |(go_at_call 26;refine(hc _ ((Ext.rfl' w).alloc _)).mono ?_;rintro e w2 ⟨rfl,hE2⟩
     have g:=hE2.get ((Z3 _ _ _).trans (if_pos rfl))
     have q4:=Z0 g 4
     have hE3:=((Ext.rfl' w).alloc _).trans hE2
     simp only[List.getElem?_toArray,List.getElem?_cons_zero,List.getElem?_cons_succ] at q4)
   |(go_at_call 40;refine(ha _ hE3).mono ?_;rintro e w3 ⟨rfl,hE4⟩))
  go_ret
  exact⟨rfl,hE3.trans hE4⟩
 ·have hF:Zo a b c m L l=Zp a b c m L:=by rw[Zo,firstV,if_neg h0]
  have hne:(Zp a b c m L !=0)=true:=by simpa using h0
  rw[hF]
  generalize Zp a b c m L=f at hc hne⊢
  go_enter func88,ntmps88
  go_wp2_with (first
   |(go_at_call 26;refine(hc _ ((Ext.rfl' w).alloc _)).mono ?_;rintro e w2 ⟨rfl,hE2⟩))
  go_ret
  exact⟨rfl,((Ext.rfl' w).alloc _).trans hE2⟩
theorem ZaP(a b c m:Int)(bs off n cap:Nat)(x y:Sf)(i j k:Nat)(hk:k<3)(w:World)(hbs:bs<w.heap.size)(hi:i<n)(hj:j<n)(hn:n≤20)(sx:ShaftAt w bs (off+i*7) x)(sy:ShaftAt w bs (off+j*7) y)
 (hx:ZF (spA x k)=true)(hy:ZF (spA y k)=true)(hN:0≤alw a b c k∧alw a b c k≤9999):
 Calls prog 144 #[.agg #[.int .i64 a,.int .i64 b,.int .i64 c,.int .i64 m,.slice (some ⟨bs,off,none⟩) n cap],.int .i64 i,.int .i64 j,.int .i64 k] w fun e w'=>e= .returned (.int .i64 (Z1m a b c x y k))∧Ext w w':=by
 have hmx:=fun w=>Z31 x k hk w
 have hmy:=fun w=>Z31 y k hk w
 have hal:=fun w=>Z6Z a b c m k hk w
 have hx2:=Z0j hx
 have hy2:=Z0j hy
 have H:Hid (Z1m a b c x y k=Z2Q (alw a b c k) (spA x k) (spA y k)):=rfl
 simp only[sfC] at hmx hmy
 generalize Z1m a b c x y k=R at H⊢
 generalize alw a b c k=N at hal hN H
 generalize spA x k=P at hmx hx2 H
 generalize spA y k=Q at hmy hy2 H
 obtain⟨P1,P2⟩:=P
 obtain⟨Q1,Q2⟩:=Q
 dsimp only at hmx hmy hx2 hy2
 have w1:wrap64 (P2 - Q1)=P2 - Q1:=by unfold wrap64;omega
 have w2:wrap64 (Q2 - P1)=Q2 - P1:=by unfold wrap64;omega
 have w3:wrap64 (P1 - Q2)=P1 - Q2:=by unfold wrap64;omega
 have w4:wrap64 (Q1 - P2)=Q1 - P2:=by unfold wrap64;omega
 clear hx hy
 have hi':¬n≤i:=by omega
 have hj':¬n≤j:=by omega
 go_enter func144,ntmps144
 go_wp2_with fail
 have hE1:=(Ext.rfl' w).alloc (.cells #[.int .i64 a,.int .i64 b,.int .i64 c,.int .i64 m,.slice (some ⟨bs,off,none⟩) n cap] 26)
 have hr:=(Z3 w (.cells #[.int .i64 a,.int .i64 b,.int .i64 c,.int .i64 m,.slice (some ⟨bs,off,none⟩) n cap] 26) w.heap.size).trans (if_pos rfl)
 have q0:=Z0 hr 0;have q1:=Z0 hr 1;have q2:=Z0 hr 2;have q3:=Z0 hr 3;have q4:=Z0 hr 4
 simp only[List.getElem?_toArray,List.getElem?_cons_zero,List.getElem?_cons_succ] at q0 q1 q2 q3 q4
 have x0:=hE1.cellS sx.1;have x1:=hE1.cellS sx.2;have x2:=hE1.cellS sx.3;have x3:=hE1.cellS sx.4;have x4:=hE1.cellS sx.5;have x5:=hE1.cellS sx.6;have x6:=hE1.cellS sx.7
 have y0:=hE1.cellS sy.1;have y1:=hE1.cellS sy.2;have y2:=hE1.cellS sy.3;have y3:=hE1.cellS sy.4;have y4:=hE1.cellS sy.5;have y5:=hE1.cellS sy.6;have y6:=hE1.cellS sy.7
 generalize World.alloc w _=V at hE1 q0 q1 q2 q3 q4 x0 x1 x2 x3 x4 x5 x6 y0 y1 y2 y3 y4 y5 y6⊢
 refine Z03 (by kernel_rfl) (by kernel_rfl) (RI 62 [some 12,some 13,some 14,some 15,some 16,some 17,some 18,some 19,some 20,some 21,some 22,some 23,some 24,some 25,some 26,some 27,some 28,some 29,some 9,some 10,none,none,some 11] [some (.pointer (some ⟨w.heap.size,4,none⟩)),some (.slice (some ⟨bs,off,none⟩) n cap),some (.int .i64 i),some (.pointer (some ⟨bs,off+i*7,none⟩)),some (.agg #[.string x.nm,.int .i64 x.a0,.int .i64 x.a1,.int .i64 x.b0,.int .i64 x.b1,.int .i64 x.c0,.int .i64 x.c1]),some (.int .i64 k),some (.agg #[.int .i64 P1,.int .i64 P2]),some (.pointer (some ⟨w.heap.size,4,none⟩)),some (.slice (some ⟨bs,off,none⟩) n cap),some (.int .i64 j),some (.pointer (some ⟨bs,off+j*7,none⟩)),some (.agg #[.string y.nm,.int .i64 y.a0,.int .i64 y.a1,.int .i64 y.b0,.int .i64 y.b1,.int .i64 y.c0,.int .i64 y.c1]),some (.int .i64 k),some (.agg #[.int .i64 Q1,.int .i64 Q2]),some (.pointer (some ⟨w.heap.size,0,none⟩)),some (.agg #[.int .i64 a,.int .i64 b,.int .i64 c,.int .i64 m]),some (.int .i64 k),some (.int .i64 N),none,none,none,none,some (.int .i64 N)] _ (Bxs V [⟨18,9,20,#[.int .i64 0,.int .i64 0],#[.int .i64 P1,.int .i64 P2],48⟩,⟨19,10,21,#[.int .i64 0,.int .i64 0],#[.int .i64 Q1,.int .i64 Q2],48⟩])) (RI.start rfl rfl (Bxs.start V _ _)) (AllIx.arr ⟨?_,?_,?_,?_,?_,?_,?_,?_,?_,?_,?_,?_,?_,?_,?_,?_,?_,?_,?_,?_,?_,?_,?_,trivial⟩) ?_
 ·intro ℓ aq W hl hp h
  have e4:aq.tmps.getD 4 undef= .pointer (some ⟨w.heap.size,0,none⟩):=h.at_out 4 rfl
  exact h.dg (hg:=Z4 rfl) (r:=by simp[go_sem,execOp,Act.eval,e4]) (m:=h.mem.k)
 ·intro ℓ aq W hl hp h
  have e12:=h.v hp 0 12
  have c0:=h.mem.1.cellS q4
  exact h.dg (hg:=Z4 rfl) (r:=by simp[go_sem,execOp,Act.eval,e12,c0]) (m:=h.mem.k)
 ·intro ℓ aq W hl hp h
  have e1:aq.tmps.getD 1 undef= .int .i64 i:=h.at_out 1 rfl
  exact h.dg (hg:=Z4 rfl) (r:=by simp[go_sem,execOp,Act.eval,e1]) (m:=h.mem.k)
 ·intro ℓ aq W hl hp h
  have e13:=h.v hp 1 13
  have e14:=h.v hp 2 14
  exact h.dg (hg:=Z4 rfl) (r:=by simp[go_sem,execOp,Act.eval,e13,e14,hi']) (m:=h.mem.k)
 ·intro ℓ aq W hl hp h
  have e15:=h.v hp 3 15
  have c0:=h.mem.1.cellS x0
  have c1:=h.mem.1.cellS x1
  have c2:=h.mem.1.cellS x2
  have c3:=h.mem.1.cellS x3
  have c4:=h.mem.1.cellS x4
  have c5:=h.mem.1.cellS x5
  have c6:=h.mem.1.cellS x6
  exact h.dg (hg:=Z4 rfl) (r:=by simp[go_sem,execOp,Act.eval,e15,c0,c1,c2,c3,c4,c5,c6]) (m:=h.mem.k)
 ·intro ℓ aq W hl hp h
  have e3:aq.tmps.getD 3 undef= .int .i64 k:=h.at_out 3 rfl
  exact h.dg (hg:=Z4 rfl) (r:=by simp[go_sem,execOp,Act.eval,e3]) (m:=h.mem.k)
 ·intro ℓ aq W hl hp h
  have e16:=h.v hp 4 16
  have e17:=h.v hp 5 17
  refine h.callG rfl (Z4 rfl) rfl (by decide) rfl (by decide) (f:=33) (args:= #[.agg #[.string x.nm,.int .i64 x.a0,.int .i64 x.a1,.int .i64 x.b0,.int .i64 x.b1,.int .i64 x.c0,.int .i64 x.c1],.int .i64 k]) (by simp[go_sem,execOp,Act.eval,e16,e17]) ?_
  refine(hmx W).mono ?_
  rintro e W' ⟨rfl,hE⟩
  exact⟨.agg #[.int .i64 P1,.int .i64 P2],rfl,(fun v' hv=>Option.some.inj (Option.some.inj hv)),h.mem.keep hE rfl⟩
 ·intro ℓ aq W hl hp h
  have e4:aq.tmps.getD 4 undef= .pointer (some ⟨w.heap.size,0,none⟩):=h.at_out 4 rfl
  exact h.dg (hg:=Z4 rfl) (r:=by simp[go_sem,execOp,Act.eval,e4]) (m:=h.mem.k)
 ·intro ℓ aq W hl hp h
  have e19:=h.v hp 7 19
  have c0:=h.mem.1.cellS q4
  exact h.dg (hg:=Z4 rfl) (r:=by simp[go_sem,execOp,Act.eval,e19,c0]) (m:=h.mem.k)
 ·intro ℓ aq W hl hp h
  have e2:aq.tmps.getD 2 undef= .int .i64 j:=h.at_out 2 rfl
  exact h.dg (hg:=Z4 rfl) (r:=by simp[go_sem,execOp,Act.eval,e2]) (m:=h.mem.k)
 ·intro ℓ aq W hl hp h
  have e20:=h.v hp 8 20
  have e21:=h.v hp 9 21
  exact h.dg (hg:=Z4 rfl) (r:=by simp[go_sem,execOp,Act.eval,e20,e21,hj']) (m:=h.mem.k)
 ·intro ℓ aq W hl hp h
  have e22:=h.v hp 10 22
  have c0:=h.mem.1.cellS y0
  have c1:=h.mem.1.cellS y1
  have c2:=h.mem.1.cellS y2
  have c3:=h.mem.1.cellS y3
  have c4:=h.mem.1.cellS y4
  have c5:=h.mem.1.cellS y5
  have c6:=h.mem.1.cellS y6
  exact h.dg (hg:=Z4 rfl) (r:=by simp[go_sem,execOp,Act.eval,e22,c0,c1,c2,c3,c4,c5,c6]) (m:=h.mem.k)
 ·intro ℓ aq W hl hp h
  have e3:aq.tmps.getD 3 undef= .int .i64 k:=h.at_out 3 rfl
  exact h.dg (hg:=Z4 rfl) (r:=by simp[go_sem,execOp,Act.eval,e3]) (m:=h.mem.k)
 ·intro ℓ aq W hl hp h
  have e23:=h.v hp 11 23
  have e24:=h.v hp 12 24
  refine h.callG rfl (Z4 rfl) rfl (by decide) rfl (by decide) (f:=33) (args:= #[.agg #[.string y.nm,.int .i64 y.a0,.int .i64 y.a1,.int .i64 y.b0,.int .i64 y.b1,.int .i64 y.c0,.int .i64 y.c1],.int .i64 k]) (by simp[go_sem,execOp,Act.eval,e23,e24]) ?_
  refine(hmy W).mono ?_
  rintro e W' ⟨rfl,hE⟩
  exact⟨.agg #[.int .i64 Q1,.int .i64 Q2],rfl,(fun v' hv=>Option.some.inj (Option.some.inj hv)),h.mem.keep hE rfl⟩
 ·intro ℓ aq W hl hp h
  have e4:aq.tmps.getD 4 undef= .pointer (some ⟨w.heap.size,0,none⟩):=h.at_out 4 rfl
  exact h.dg (hg:=Z4 rfl) (r:=by simp[go_sem,execOp,Act.eval,e4]) (m:=h.mem.k)
 ·intro ℓ aq W hl hp h
  have e26:=h.v hp 14 26
  have c0:=h.mem.1.cellS q0
  have c1:=h.mem.1.cellS q1
  have c2:=h.mem.1.cellS q2
  have c3:=h.mem.1.cellS q3
  exact h.dg (hg:=Z4 rfl) (r:=by simp[go_sem,execOp,Act.eval,e26,c0,c1,c2,c3]) (m:=h.mem.k)
 ·intro ℓ aq W hl hp h
  have e3:aq.tmps.getD 3 undef= .int .i64 k:=h.at_out 3 rfl
  exact h.dg (hg:=Z4 rfl) (r:=by simp[go_sem,execOp,Act.eval,e3]) (m:=h.mem.k)
 ·intro ℓ aq W hl hp h
  have e27:=h.v hp 15 27
  have e28:=h.v hp 16 28
  refine h.callG rfl (Z4 rfl) rfl (by decide) rfl (by decide) (f:=99) (args:= #[.agg #[.int .i64 a,.int .i64 b,.int .i64 c,.int .i64 m],.int .i64 k]) (by simp[go_sem,execOp,Act.eval,e27,e28]) ?_
  refine(hal W).mono ?_
  rintro e W' ⟨rfl,hE⟩
  exact⟨.int .i64 N,rfl,(fun v' hv=>Option.some.inj (Option.some.inj hv)),h.mem.keep hE rfl⟩
 ·intro ℓ aq W hl hp h
  exact h.detG rfl (Z4 rfl) rfl (by decide) rfl (by decide) (fun v' hv=>by simp at hv) (by simp[go_sem,execOp,Act.eval]) (h.mem.make (c:=⟨18,9,20,#[.int .i64 0,.int .i64 0],#[.int .i64 P1,.int .i64 P2],48⟩) (by simp) rfl hl rfl (by intro e he hs;simp only[List.mem_cons,List.not_mem_nil,or_false] at he;rcases he with rfl|rfl<;>first|exact⟨rfl,rfl,rfl⟩|(simp at hs)))
 ·intro ℓ aq W hl hp h
  exact h.detG rfl (Z4 rfl) rfl (by decide) rfl (by decide) (fun v' hv=>by simp at hv) (by simp[go_sem,execOp,Act.eval]) (h.mem.make (c:=⟨19,10,21,#[.int .i64 0,.int .i64 0],#[.int .i64 Q1,.int .i64 Q2],48⟩) (by simp) rfl hl rfl (by intro e he hs;simp only[List.mem_cons,List.not_mem_nil,or_false] at he;rcases he with rfl|rfl<;>first|exact⟨rfl,rfl,rfl⟩|(simp at hs)))
 ·intro ℓ aq W hl hp h
  have e18:=h.v hp 6 18
  obtain⟨b9,x9,l9,m9⟩:=h.mem.2.1 ⟨18,9,20,#[.int .i64 0,.int .i64 0],#[.int .i64 P1,.int .i64 P2],48⟩ (by simp) (hp 18 (by decide))
  dsimp only at x9 m9
  rw[hl] at m9
  replace m9:W.heap[b9]? =some (.cells #[.int .i64 0,.int .i64 0] 48):=m9
  have f9:=Z2z (u':= .int .i64 P1) (v':= .int .i64 P2) m9
  have g9:=Zc m9
  exact h.eff rfl rfl rfl rfl (by simp[go_sem,execOp,Act.eval,x9,g9.1,g9.2.1,g9.2.2.1,g9.2.2.2,e18]) (h.mem.fill (c:=⟨18,9,20,#[.int .i64 0,.int .i64 0],#[.int .i64 P1,.int .i64 P2],48⟩) (by simp) rfl (hp 18 (by decide)) rfl (by intro e he hs;simp only[List.mem_cons,List.not_mem_nil,or_false] at he;rcases he with rfl|rfl<;>first|exact⟨rfl,rfl,rfl⟩|(simp at hs)) x9 f9.2.2.1 f9.2.1 f9.2.2.2.1 f9.2.2.2.2.1 f9.2.2.2.2.2 f9.1)
 ·intro ℓ aq W hl hp h
  have e25:=h.v hp 13 25
  obtain⟨b9,x9,l9,m9⟩:=h.mem.2.1 ⟨19,10,21,#[.int .i64 0,.int .i64 0],#[.int .i64 Q1,.int .i64 Q2],48⟩ (by simp) (hp 19 (by decide))
  dsimp only at x9 m9
  rw[hl] at m9
  replace m9:W.heap[b9]? =some (.cells #[.int .i64 0,.int .i64 0] 48):=m9
  have f9:=Z2z (u':= .int .i64 Q1) (v':= .int .i64 Q2) m9
  have g9:=Zc m9
  exact h.eff rfl rfl rfl rfl (by simp[go_sem,execOp,Act.eval,x9,g9.1,g9.2.1,g9.2.2.1,g9.2.2.2,e25]) (h.mem.fill (c:=⟨19,10,21,#[.int .i64 0,.int .i64 0],#[.int .i64 Q1,.int .i64 Q2],48⟩) (by simp) rfl (hp 19 (by decide)) rfl (by intro e he hs;simp only[List.mem_cons,List.not_mem_nil,or_false] at he;rcases he with rfl|rfl<;>first|exact⟨rfl,rfl,rfl⟩|(simp at hs)) x9 f9.2.2.1 f9.2.1 f9.2.2.2.1 f9.2.2.2.2.1 f9.2.2.2.2.2 f9.1)
 ·intro ℓ aq W hl hp h
  have e29:=h.v hp 17 29
  exact h.dg (hg:=Z4 rfl) (r:=by simp[go_sem,execOp,Act.eval,e29]) (m:=h.mem.k)
 ·intro ℓ aq W hall h
  have hEW:=h.mem.1
  obtain⟨b0,x0,l0,m0⟩:=h.mem.2.1 ⟨18,9,20,#[.int .i64 0,.int .i64 0],#[.int .i64 P1,.int .i64 P2],48⟩ (by simp) (hall 18 (by decide))
  dsimp only at x0 m0
  rw[hall 20 (by decide)] at m0
  replace m0:W.heap[b0]? =some (.cells #[.int .i64 P1,.int .i64 P2] 48):=m0
  obtain⟨b1,x1,l1,m1⟩:=h.mem.2.1 ⟨19,10,21,#[.int .i64 0,.int .i64 0],#[.int .i64 Q1,.int .i64 Q2],48⟩ (by simp) (hall 19 (by decide))
  dsimp only at x1 m1
  rw[hall 21 (by decide)] at m1
  replace m1:W.heap[b1]? =some (.cells #[.int .i64 Q1,.int .i64 Q2] 48):=m1
  have ea:=Z1z h.defers h.size
  simp only[List.range,List.range.loop,List.map] at ea
  rw[ea]
  clear ea
  rw[(show aq.tmps.getD 1 undef= .int .i64 i from h.at_out 1 rfl),(show aq.tmps.getD 2 undef= .int .i64 j from h.at_out 2 rfl),(show aq.tmps.getD 3 undef= .int .i64 k from h.at_out 3 rfl),(show aq.tmps.getD 4 undef= .pointer (some ⟨w.heap.size,0,none⟩) from h.at_out 4 rfl),(show aq.tmps.getD 11 undef= .int .i64 N from h.vals 22 11 _ rfl rfl (hall 22 (by decide))),x0,x1]
  iterate 55 generalize aq.tmps.getD _ undef=u
  clear h hall
  have hE2:=hE1.trans hEW
  have g0:=Zc m0;have g00:=g0.1;have g01:=g0.2.1
  have g1:=Zc m1;have g10:=g1.1;have g11:=g1.2.1
  clear g0 g1
  go_wp2
  all_goals
   go_ret
   refine⟨ZK ?_,hE2⟩
   rw[H.out]
   simp only[Z2Q]
   (split<;>try split)
   all_goals first|rfl|(exfalso;simp at*;omega)
end Go.Proofs.Tryq
namespace Go.Nk
open Go Go.Region
open Go.Proofs.Tryq (Ext Z3 Z2)
structure R6(i0 i1 t1 i2 t2 i3 t3 len:Nat)(w0:World)(C:Array Value)(ty:TypeId)(A:Value→World→Prop)(ℓ:Nat→Bool)(x:Tmp→Value)(w:World):Prop where
 o0:ℓ i2=true→ℓ i0=true
 o1:ℓ i2=true→ℓ i1=true
 o2:ℓ i3=true→ℓ i2=true
 s0:ℓ i1=false→w=w0
 s1:ℓ i1=true→ℓ i2=false→w=w0.alloc (.cells C ty)∧x t1= .slice (some ⟨w0.heap.size,0,none⟩) len len
 s2:ℓ i2=true→A (x t2) w
 s3:ℓ i3=true→x t3=x t2
variable {i0 i1 t1 i2 t2 i3 t3 len:Nat} {w0:World} {C:Array Value} {ty:TypeId} {A:Value→World→Prop} {ℓ:Nat→Bool} {x:Tmp→Value} {w:World}
theorem R6.start:R6 i0 i1 t1 i2 t2 i3 t3 len w0 C ty A (fun _=>false) x w0:=by
 refine⟨fun h=> ?_,fun h=> ?_,fun h=> ?_,fun _=>rfl,fun h=> ?_,fun h=> ?_,fun h=> ?_⟩<;>cases h
theorem R6.keep(h:R6 i0 i1 t1 i2 t2 i3 t3 len w0 C ty A ℓ x w){i:Nat}{d:Tmp}{v:Value}(hi:(i !=i1&&i !=i2&&i !=i3)=true)(hd:(d !=t1&&d !=t2&&d !=t3)=true):R6 i0 i1 t1 i2 t2 i3 t3 len w0 C ty A (upd ℓ i) (fun t=>if t=d then v else x t) w:=by
 simp at hi hd
 have e1:=upd_ne (ℓ:=ℓ) (i:=i) (j:=i1) (fun h=>hi.1.1 h.symm)
 have e2:=upd_ne (ℓ:=ℓ) (i:=i) (j:=i2) (fun h=>hi.1.2 h.symm)
 have e3:=upd_ne (ℓ:=ℓ) (i:=i) (j:=i3) (fun h=>hi.2 h.symm)
 refine⟨?_,by rw[e1,e2];exact h.o1,by rw[e2,e3];exact h.o2,by rw[e1];exact h.s0,?_,?_,?_⟩
 ·rw[e2]
  intro a
  by_cases h0:i0=i
  ·rw[h0];exact Z0k _ _
  ·rw[upd_ne h0];exact h.o0 a
 ·rw[e1,e2]
  intro a b
  obtain⟨c1,c2⟩:=h.s1 a b
  exact⟨c1,by rw[if_neg (fun e=>hd.1.1 e.symm)];exact c2⟩
 ·rw[e2]
  intro a
  have:=h.s2 a
  rw[if_neg (fun e=>hd.1.2 e.symm)]
  exact this
 ·rw[e3]
  intro a
  rw[if_neg (fun e=>hd.2 e.symm),if_neg (fun e=>hd.1.2 e.symm)]
  exact h.s3 a
theorem R6.cell(h:R6 i0 i1 t1 i2 t2 i3 t3 len w0 C ty A ℓ x w){p:Addr}{v:Value}(h0:w0.cell? p=some v)(hA:∀u w,A u w→w.cell? p=some v):w.cell? p=some v:=by
 cases a:ℓ i1 with
 |false=>rw[h.s0 a];exact h0
 |true=>
  cases b:ℓ i2 with
  |false=>
   rw[(h.s1 a b).1]
   exact((Ext.rfl' w0).alloc _).cellS h0
  |true=>exact hA _ _ (h.s2 b)
theorem R6.make(h:R6 i0 i1 t1 i2 t2 i3 t3 len w0 C ty A ℓ x w)(h1:ℓ i1=false)(hn:(i1 !=i2&&i1 !=i3&&i2 !=i3)=true):R6 i0 i1 t1 i2 t2 i3 t3 len w0 C ty A (upd ℓ i1) (fun t=>if t=t1 then .slice (some ⟨w.heap.size,0,none⟩) len len else x t) (w.alloc (.cells C ty)):=by
 simp at hn
 have h2:ℓ i2=false:=by
  cases b:ℓ i2 with
  |false=>rfl
  |true=>rw[h.o1 b] at h1;cases h1
 have h3:ℓ i3=false:=by
  cases b:ℓ i3 with
  |false=>rfl
  |true=>rw[h.o2 b] at h2;cases h2
 have e2:=upd_ne (ℓ:=ℓ) (i:=i1) (j:=i2) (fun h=>hn.1.1 h.symm)
 have e3:=upd_ne (ℓ:=ℓ) (i:=i1) (j:=i3) (fun h=>hn.1.2 h.symm)
 have hw:=h.s0 h1
 subst hw
 refine⟨?_,?_,?_,?_,?_,?_,?_⟩
 ·rw[e2,h2];intro h;cases h
 ·rw[e2,h2];intro h;cases h
 ·rw[e3,h3];intro h;cases h
 ·rw[Z0k];intro h;cases h
 ·intro _ _;exact⟨rfl,if_pos rfl⟩
 ·rw[e2,h2];intro h;cases h
 ·rw[e3,h3];intro h;cases h
theorem R6.app(h:R6 i0 i1 t1 i2 t2 i3 t3 len w0 C ty A ℓ x w)(h0:ℓ i0=true)(h1:ℓ i1=true)(h2:ℓ i2=false)(hn:(i1 !=i2&&i1 !=i3&&i2 !=i3)=true){v:Value}{w':World}(hA:A v w'):R6 i0 i1 t1 i2 t2 i3 t3 len w0 C ty A (upd ℓ i2) (fun t=>if t=t2 then v else x t) w':=by
 simp at hn
 have h3:ℓ i3=false:=by
  cases b:ℓ i3 with
  |false=>rfl
  |true=>rw[h.o2 b] at h2;cases h2
 have e1:=upd_ne (ℓ:=ℓ) (i:=i2) (j:=i1) (fun h=>hn.1.1 h)
 have e3:=upd_ne (ℓ:=ℓ) (i:=i2) (j:=i3) (fun h=>hn.2 h.symm)
 refine⟨?_,?_,?_,?_,?_,?_,?_⟩
 ·intro _
  by_cases h9:i0=i2
  ·rw[h9];exact Z0k _ _
  ·rw[upd_ne h9];exact h0
 ·intro _;rw[e1];exact h1
 ·intro _;exact Z0k _ _
 ·rw[e1,h1];intro h;cases h
 ·rw[Z0k];intro _ h;cases h
 ·intro _;rw[if_pos rfl];exact hA
 ·rw[e3,h3];intro h;cases h
theorem R6.put(h:R6 i0 i1 t1 i2 t2 i3 t3 len w0 C ty A ℓ x w)(h2:ℓ i2=true)(hn:(i1 !=i2&&i1 !=i3&&i2 !=i3&&t2 !=t3)=true):R6 i0 i1 t1 i2 t2 i3 t3 len w0 C ty A (upd ℓ i3) (fun t=>if t=t3 then x t2 else x t) w:=by
 simp at hn
 have e1:=upd_ne (ℓ:=ℓ) (i:=i3) (j:=i1) (fun h=>hn.1.1.2 h)
 have e2:=upd_ne (ℓ:=ℓ) (i:=i3) (j:=i2) (fun h=>hn.1.2 h)
 refine⟨?_,?_,?_,?_,?_,?_,?_⟩
 ·rw[e2]
  intro a
  by_cases h9:i0=i3
  ·rw[h9];exact Z0k _ _
  ·rw[upd_ne h9];exact h.o0 a
 ·rw[e1,e2];exact h.o1
 ·intro _;rw[e2];exact h2
 ·rw[e1,h.o1 h2];intro h;cases h
 ·rw[e1,e2,h2];intro _ h;cases h
 ·intro _;rw[if_neg hn.2];exact h.s2 h2
 ·intro _;rw[if_pos rfl,if_neg hn.2]
theorem R6.before(h:R6 i0 i1 t1 i2 t2 i3 t3 len w0 C ty A ℓ x w)(h0:ℓ i0=false):ℓ i3=false:=by
 cases b:ℓ i3 with
 |false=>rfl
 |true=>rw[h.o0 (h.o2 b)] at h0;cases h0
end Go.Nk
namespace Go.Proofs.Tryq
set_option maxRecDepth 100000
set_option maxHeartbeats 8000000
open Go Go.Nk Go.RowKit
def apF(a b c:Int)(L:List Sf)(p q:Int):Nat→List Ap
 |0=>apP a b c L p q
 |1=>apE a b c L p q 1++apE a b c L p q 2
 |2=>apE a b c L p q 2
 |_=>[]
theorem Zcf(a b c:Int)(L:List Sf)(p q:Int)(u:Nat)(h:u<3):apF a b c L p q u=apE a b c L p q u++apF a b c L p q (u+1):=by
 match u,h with
 |0,_=>rfl
 |1,_=>rfl
 |2,_=>exact(List.append_nil _).symm
theorem OwnAp.ne{B b:Nat}{w:World}{v:Value}{A:List Ap}{C:Array Value}{ty:TypeId}(h:OwnAp B w v A)(hb:w.heap[b]? =some (.cells C ty))(hty:ty≠46):v.ownBlock≠some b:=by
 intro e
 rcases h.2 with⟨rfl,_⟩|⟨g,_,_,rfl,_,hg,_⟩
 ·cases e
 ·cases e
  rw[hb] at hg
  cases hg
  exact hty rfl
theorem Zcg{a b c:Int}{L:List Sf}(hG:Good a b c L){u:Nat}(hu:u<3):0≤alw a b c u∧alw a b c u≤9999:=by
 match u,hu with
 |0,_=>exact hG.1
 |1,_=>exact hG.2
 |2,_=>exact hG.3
theorem Z7Q{a b c:Int}{L:List Sf}(hG:Good a b c L){x:Sf}(hx:x∈L){u:Nat}(hu:u<3):ZF (spA x u)=true:=by
 have h:=hG.ins hx
 match u,hu with
 |0,_=>exact h.1
 |1,_=>exact h.2.1
 |2,_=>exact h.2.2
theorem Z4t(a b c m:Int)(base:Option Addr)(n cap:Nat)(L:List Sf)(bl:Option Addr)(k cl:Nat)(l:List Int)(w:World)(hG:Good a b c L)(hlen:L.length=n)(hn:n≤20)(hk:l.length=k)(hk2:k≤100)(hin:∀p∈l,0≤p∧p<(n:Int))(hS:RawA w base L)(hl:RawI w bl l):
 Calls prog 98 #[.agg #[.int .i64 a,.int .i64 b,.int .i64 c,.int .i64 m,.slice base n cap],.slice bl k cl] w fun e w'=>∃v,e= .returned v∧OwnAp w.heap.size w' v (apA a b c L l)∧Ext w w':=by
 have hlN:(apA a b c L l).length≤30000:=by
  have h:=Z3K a b c L 100 l (by omega)
  have:3*100*l.length≤30000:=by omega
  omega
 have H:Hid (apA a b c L l=[]++apA a b c L (l.drop 0)):=rfl
 have hE0:=(Ext.rfl' w).alloc (.cells #[.int .i64 a,.int .i64 b,.int .i64 c,.int .i64 m,.slice base n cap] 26)
 have hr0:(w.alloc (.cells #[.int .i64 a,.int .i64 b,.int .i64 c,.int .i64 m,.slice base n cap] 26)).heap[w.heap.size]? =some (.cells #[.int .i64 a,.int .i64 b,.int .i64 c,.int .i64 m,.slice base n cap] 26):=by rw[Z3,if_pos rfl]
 go_enter func98,ntmps98
 go_wp2
 go_loopw [5,6] (fun v5 v6 wr=>∃(i:Nat)(pre:List Ap),i≤k∧v6= .int .i64 i∧wr.heap[w.heap.size]? =some (.cells #[.int .i64 a,.int .i64 b,.int .i64 c,.int .i64 m,.slice base n cap] 26)∧Ext w wr∧OwnAp w.heap.size wr v5 pre∧Hid (apA a b c L l=pre++apA a b c L (l.drop i))) (fun _ v6 _=>k - (intOf v6).toNat)
 case atStart=>exact⟨0,[],Nat.zero_le _,rfl,hr0,hE0,World.ownsRow_nil _ _ _ _,H⟩
 case round=>
  obtain⟨i,pre,hi,rfl,hr,hE,hown,hH⟩:=hrel
  clear H hE0 hr0
  by_cases hik:i=k
  ·subst hik
   have hz:apA a b c L l=pre:=by rw[hH.out,←hk,List.drop_length,apA,List.append_nil]
   clear hH
   go_wp2
   go_ret
   exact⟨_,rfl,by rw[hz];exact hown,hE⟩
  ·have hilt:i<k:=by omega
   obtain⟨p,hp⟩:∃p,l[i]? =some p:=⟨_,List.getElem?_eq_getElem (by omega)⟩
   have hpn:=hin p (List.mem_of_getElem? hp)
   obtain⟨P,rfl⟩:=Int.eq_ofNat_of_zero_le hpn.1
   obtain⟨bb,ob,rfl,hbb,hcp⟩:=hl i _ hp
   obtain⟨x,hx⟩:∃x,L[P]? =some x:=⟨_,List.getElem?_eq_getElem (by omega)⟩
   obtain⟨bs,off,rfl,hbs,sx,_⟩:=hS P x hx
   have hH2:Hid (apA a b c L l=pre++(apR a b c L P (l.drop (i+1))++apA a b c L (l.drop (i+1)))):=by show _=_;rw[hH.out,Z7D a b c L hp]
   clear hH
   go_wp2
   obtain⟨wa,rfl⟩:∃wa:World,wa=wr:=⟨_,rfl⟩
   go_loopw [5,7] (fun v5 v7 wr=>∃(j:Nat)(pre:List Ap),i+1≤j∧j≤k∧v7= .int .i64 j∧wr.heap[w.heap.size]? =some (.cells #[.int .i64 a,.int .i64 b,.int .i64 c,.int .i64 m,.slice (some ⟨bs,off,none⟩) n cap] 26)∧Ext w wr∧OwnAp w.heap.size wr v5 pre∧Hid (apA a b c L l=pre++(apR a b c L P (l.drop j)++apA a b c L (l.drop (i+1))))) (fun _ v7 _=>k - (intOf v7).toNat)
   case atStart=>exact⟨i+1,pre,Nat.le_refl _,by omega,by push_cast;rfl,hr,hE,hown,hH2⟩
   case round=>
    clear hH2 hr hE hown
    obtain⟨j,pre2,hij,hj,rfl,hr,hE,hown,hH⟩:=hrel
    by_cases hjk:j=k
    ·subst hjk
     have hH3:Hid (apA a b c L l=pre2++apA a b c L (l.drop (i+1))):=by show _=_;rw[hH.out,←hk,List.drop_length];rfl
     clear hH
     go_wp2
     exact⟨⟨i+1,pre2,by omega,by push_cast;rfl,hr,hE,hown,hH3⟩,by simp[intOf];omega⟩
    ·have hjlt:j<k:=by omega
     obtain⟨q,hq⟩:∃q,l[j]? =some q:=⟨_,List.getElem?_eq_getElem (by omega)⟩
     have hqn:=hin q (List.mem_of_getElem? hq)
     obtain⟨Q,rfl⟩:=Int.eq_ofNat_of_zero_le hqn.1
     obtain⟨bb2,ob2,he2,_,hcq⟩:=hl j _ hq
     obtain⟨rfl,rfl⟩:bb=bb2∧ob=ob2:=by simpa using he2
     obtain⟨y,hy⟩:∃y,L[Q]? =some y:=⟨_,List.getElem?_eq_getElem (by omega)⟩
     obtain⟨bs2,off2,he3,_,sy,_⟩:=hS Q y hy
     obtain⟨rfl,rfl⟩:bs=bs2∧off=off2:=by simpa using he3
     have hH3:Hid (apA a b c L l=pre2++(apF a b c L P Q 0++(apR a b c L P (l.drop (j+1))++apA a b c L (l.drop (i+1))))):=by show _=_;rw[hH.out,Z7E a b c L P hq,apF,List.append_assoc]
     clear hH he2 he3
     go_wp2
     obtain⟨wb,rfl⟩:∃wb:World,wb=wr:=⟨_,rfl⟩
     go_loopw [5,8] (fun v5 v8 wr=>∃(u:Nat)(pre:List Ap),u≤3∧v8= .int .i64 u∧wr.heap[w.heap.size]? =some (.cells #[.int .i64 a,.int .i64 b,.int .i64 c,.int .i64 m,.slice (some ⟨bs,off,none⟩) n cap] 26)∧Ext w wr∧OwnAp w.heap.size wr v5 pre∧Hid (apA a b c L l=pre++(apF a b c L P Q u++(apR a b c L P (l.drop (j+1))++apA a b c L (l.drop (i+1)))))) (fun _ v8 _=>3 - (intOf v8).toNat)
     case atStart=>exact⟨0,pre2,by omega,rfl,hr,hE,hown,hH3⟩
     case round=>
      clear hH3 hr hE hown
      obtain⟨u,pre3,hu,rfl,hr,hE,hown,hH⟩:=hrel
      by_cases hu3:u=3
      ·subst hu3
       have hH4:Hid (apA a b c L l=pre3++(apR a b c L P (l.drop (j+1))++apA a b c L (l.drop (i+1)))):=hH
       clear hH
       go_wp2
       exact⟨⟨j+1,pre3,by omega,by omega,by push_cast;rfl,hr,hE,hown,hH4⟩,by simp[intOf];omega⟩
      ·have hult:u<3:=by omega
       have hnr:=fun W (hW:Ext w W)=>ZaP a b c m bs off n cap x y P Q u hult W (hW.lt hbs) (by omega) (by omega) hn (sx.ext hW) (sy.ext hW) (Z7Q hG (List.mem_of_getElem? hx) hult) (Z7Q hG (List.mem_of_getElem? hy) hult) (Zcg hG hult)
       have hE1:apE a b c L P Q u=if Z1m a b c x y u=1 then[] else[⟨P,Q,u,Z1m a b c x y u⟩]:=by rw[apE,Int.toNat_natCast,Int.toNat_natCast,hx,hy]
       have hH4:Hid (apA a b c L l=pre3++((if Z1m a b c x y u=1 then[] else[⟨P,Q,u,Z1m a b c x y u⟩])++(apF a b c L P Q (u+1)++(apR a b c L P (l.drop (j+1))++apA a b c L (l.drop (i+1)))))):=by show _=_;rw[hH.out,Zcf _ _ _ _ _ _ u hult,hE1,List.append_assoc]
       have hpl:pre3.length≤30000:=by
        have:=congrArg List.length hH.out
        rw[List.length_append] at this
        omega
       clear hH hE1
       generalize Z1m a b c x y u=s at hnr hH4
       have q0:=Z0 hr 0;have q1:=Z0 hr 1;have q2:=Z0 hr 2;have q3:=Z0 hr 3;have q4:=Z0 hr 4
       simp only[List.getElem?_toArray,List.getElem?_cons_zero,List.getElem?_cons_succ] at q0 q1 q2 q3 q4
       have cp:=hE.cellS hcp;have cq:=hE.cellS hcq
       have hi':¬k≤i:=by omega
       have hj':¬k≤j:=by omega
       have hu0:(u:Int)≤2:=by omega
       have hI:(i:Int)<(k:Int):=by omega
       have hJ:(j:Int)<(k:Int):=by omega
       go_wp2_with fail
       refine Z03 (by kernel_rfl) (by kernel_rfl) (RI 56 [some 28,some 29,some 30,some 31,some 32,some 33,some 34,some 35,some 36,some 37,some 38,some 9] [some (.agg #[.int .i64 a,.int .i64 b,.int .i64 c,.int .i64 m,.slice (some ⟨bs,off,none⟩) n cap]),some (.slice (some ⟨bb,ob,none⟩) k cl),some (.int .i64 i),some (.pointer (some ⟨bb,ob+i,none⟩)),some (.int .i64 P),some (.slice (some ⟨bb,ob,none⟩) k cl),some (.int .i64 j),some (.pointer (some ⟨bb,ob+j,none⟩)),some (.int .i64 Q),some (.int .i64 u),some (.int .i64 s),some (.int .i64 s)] _ (Sxs wr [])) (RI.start rfl rfl (Sxs.start wr _ _)) (AllIx.arr ⟨?_,?_,?_,?_,?_,?_,?_,?_,?_,?_,?_,?_,trivial⟩) ?_
       ·intro ℓ aq W hl hp h
        have e2:aq.tmps.getD 2 undef=Value.pointer (some {block:=w.heap.size,off:=0}):=h.at_out 2 rfl
        have c0:=h.mem.1.cellS q0
        have c1:=h.mem.1.cellS q1
        have c2:=h.mem.1.cellS q2
        have c3:=h.mem.1.cellS q3
        have c4:=h.mem.1.cellS q4
        exact h.dg (hg:=Z4 rfl) (r:=by simp[go_sem,execOp,Act.eval,e2,c0,c1,c2,c3,c4]) (m:=h.mem.k)
       ·intro ℓ aq W hl hp h
        have e1:aq.tmps.getD 1 undef=Value.slice (some {block:=bb,off:=ob}) k cl:=h.at_out 1 rfl
        exact h.dg (hg:=Z4 rfl) (r:=by simp[go_sem,execOp,Act.eval,e1]) (m:=h.mem.k)
       ·intro ℓ aq W hl hp h
        have e6:aq.tmps.getD 6 undef=Value.int IntKind.i64 (i:Int):=h.at_out 6 rfl
        exact h.dg (hg:=Z4 rfl) (r:=by simp[go_sem,execOp,Act.eval,e6]) (m:=h.mem.k)
       ·intro ℓ aq W hl hp h
        have e29:=h.v hp 1 29
        have e30:=h.v hp 2 30
        exact h.dg (hg:=Z4 rfl) (r:=by simp[go_sem,execOp,Act.eval,e29,e30,hi']) (m:=h.mem.k)
       ·intro ℓ aq W hl hp h
        have e31:=h.v hp 3 31
        have c0:=h.mem.1.cellS cp
        exact h.dg (hg:=Z4 rfl) (r:=by simp[go_sem,execOp,Act.eval,e31,c0]) (m:=h.mem.k)
       ·intro ℓ aq W hl hp h
        have e1:aq.tmps.getD 1 undef=Value.slice (some {block:=bb,off:=ob}) k cl:=h.at_out 1 rfl
        exact h.dg (hg:=Z4 rfl) (r:=by simp[go_sem,execOp,Act.eval,e1]) (m:=h.mem.k)
       ·intro ℓ aq W hl hp h
        have e7:aq.tmps.getD 7 undef=Value.int IntKind.i64 (j:Int):=h.at_out 7 rfl
        exact h.dg (hg:=Z4 rfl) (r:=by simp[go_sem,execOp,Act.eval,e7]) (m:=h.mem.k)
       ·intro ℓ aq W hl hp h
        have e33:=h.v hp 5 33
        have e34:=h.v hp 6 34
        exact h.dg (hg:=Z4 rfl) (r:=by simp[go_sem,execOp,Act.eval,e33,e34,hj']) (m:=h.mem.k)
       ·intro ℓ aq W hl hp h
        have e35:=h.v hp 7 35
        have c0:=h.mem.1.cellS cq
        exact h.dg (hg:=Z4 rfl) (r:=by simp[go_sem,execOp,Act.eval,e35,c0]) (m:=h.mem.k)
       ·intro ℓ aq W hl hp h
        have e8:aq.tmps.getD 8 undef=Value.int IntKind.i64 (u:Int):=h.at_out 8 rfl
        exact h.dg (hg:=Z4 rfl) (r:=by simp[go_sem,execOp,Act.eval,e8]) (m:=h.mem.k)
       ·intro ℓ aq W hl hp h
        have e28:=h.v hp 0 28
        have e32:=h.v hp 4 32
        have e36:=h.v hp 8 36
        have e37:=h.v hp 9 37
        refine h.callG rfl (Z4 rfl) rfl (by decide) rfl (by decide) (f:=144) (args:= #[.agg #[.int .i64 a,.int .i64 b,.int .i64 c,.int .i64 m,.slice (some ⟨bs,off,none⟩) n cap],.int .i64 P,.int .i64 Q,.int .i64 u]) (by simp[go_sem,execOp,Act.eval,e28,e32,e36,e37]) ?_
        refine(hnr W (hE.trans h.mem.1)).mono ?_
        rintro e W' ⟨rfl,hE⟩
        exact⟨.int .i64 s,rfl,(fun v' hv=>Option.some.inj (Option.some.inj hv)),h.mem.keep hE rfl⟩
       ·intro ℓ aq W hl hp h
        have e38:=h.v hp 10 38
        exact h.dg (hg:=Z4 rfl) (r:=by simp[go_sem,execOp,Act.eval,e38]) (m:=h.mem.k)
       ·intro ℓ aq W hall h
        have hEW:=h.mem.1
        have ea:=Z1z h.defers h.size
        simp only[List.range,List.range.loop,List.map] at ea
        rw[ea]
        clear ea
        rw[(show aq.tmps.getD 0 undef=Value.agg #[Value.int IntKind.i64 a,Value.int IntKind.i64 b,Value.int IntKind.i64 c,Value.int IntKind.i64 m,Value.slice (some {block:=bs,off:=off}) n cap] from h.at_out 0 rfl),(show aq.tmps.getD 1 undef=Value.slice (some {block:=bb,off:=ob}) k cl from h.at_out 1 rfl),(show aq.tmps.getD 2 undef=Value.pointer (some {block:=w.heap.size,off:=0}) from h.at_out 2 rfl),(show aq.tmps.getD 3 undef=undef from h.at_out 3 rfl),(show aq.tmps.getD 4 undef=Value.slice none 0 0 from h.at_out 4 rfl),(show aq.tmps.getD 5 undef=u5 from h.at_out 5 rfl),(show aq.tmps.getD 6 undef=Value.int IntKind.i64 (i:Int) from h.at_out 6 rfl),(show aq.tmps.getD 7 undef=Value.int IntKind.i64 (j:Int) from h.at_out 7 rfl),(show aq.tmps.getD 8 undef=Value.int IntKind.i64 (u:Int) from h.at_out 8 rfl),(show aq.tmps.getD 9 undef= .int .i64 s from h.vals 11 9 _ rfl rfl (hall 11 (by decide))),(show aq.tmps.getD 10 undef=Value.int IntKind.i64 (i:Int) from h.at_out 10 rfl),(show aq.tmps.getD 11 undef=Value.slice (some {block:=bb,off:=ob}) k cl from h.at_out 11 rfl),(show aq.tmps.getD 12 undef=Value.int IntKind.i64 (k:Int) from h.at_out 12 rfl),(show aq.tmps.getD 13 undef=Value.bool true from h.at_out 13 rfl),(show aq.tmps.getD 14 undef=u14 from h.at_out 14 rfl),(show aq.tmps.getD 15 undef=u15 from h.at_out 15 rfl),(show aq.tmps.getD 16 undef=Value.int IntKind.i64 (i:Int) from h.at_out 16 rfl),(show aq.tmps.getD 17 undef=Value.int IntKind.i64 ((i:Int)+1) from h.at_out 17 rfl),(show aq.tmps.getD 18 undef=Value.int IntKind.i64 (j:Int) from h.at_out 18 rfl),(show aq.tmps.getD 19 undef=Value.slice (some {block:=bb,off:=ob}) k cl from h.at_out 19 rfl),(show aq.tmps.getD 20 undef=Value.int IntKind.i64 (k:Int) from h.at_out 20 rfl),(show aq.tmps.getD 21 undef=Value.bool true from h.at_out 21 rfl),(show aq.tmps.getD 22 undef=u22 from h.at_out 22 rfl),(show aq.tmps.getD 23 undef=u23 from h.at_out 23 rfl),(show aq.tmps.getD 24 undef=Value.int IntKind.i64 (u:Int) from h.at_out 24 rfl),(show aq.tmps.getD 25 undef=Value.bool true from h.at_out 25 rfl),(show aq.tmps.getD 26 undef=u26 from h.at_out 26 rfl),(show aq.tmps.getD 27 undef=u27 from h.at_out 27 rfl),(show aq.tmps.getD 39 undef=u39 from h.at_out 39 rfl),(show aq.tmps.getD 40 undef=u40 from h.at_out 40 rfl),(show aq.tmps.getD 41 undef=u41 from h.at_out 41 rfl),(show aq.tmps.getD 42 undef=u42 from h.at_out 42 rfl),(show aq.tmps.getD 43 undef=u43 from h.at_out 43 rfl),(show aq.tmps.getD 44 undef=u44 from h.at_out 44 rfl),(show aq.tmps.getD 45 undef=u45 from h.at_out 45 rfl),(show aq.tmps.getD 46 undef=u46 from h.at_out 46 rfl),(show aq.tmps.getD 47 undef=u47 from h.at_out 47 rfl),(show aq.tmps.getD 48 undef=u48 from h.at_out 48 rfl),(show aq.tmps.getD 49 undef=u49 from h.at_out 49 rfl),(show aq.tmps.getD 50 undef=u50 from h.at_out 50 rfl),(show aq.tmps.getD 51 undef=u51 from h.at_out 51 rfl),(show aq.tmps.getD 52 undef=u52 from h.at_out 52 rfl),(show aq.tmps.getD 53 undef=u53 from h.at_out 53 rfl),(show aq.tmps.getD 54 undef=u54 from h.at_out 54 rfl),(show aq.tmps.getD 55 undef=undef from h.at_out 55 rfl)]
        generalize aq.tmps.getD 28 undef=u28
        generalize aq.tmps.getD 29 undef=u29
        generalize aq.tmps.getD 30 undef=u30
        generalize aq.tmps.getD 31 undef=u31
        generalize aq.tmps.getD 32 undef=u32
        generalize aq.tmps.getD 33 undef=u33
        generalize aq.tmps.getD 34 undef=u34
        generalize aq.tmps.getD 35 undef=u35
        generalize aq.tmps.getD 36 undef=u36
        generalize aq.tmps.getD 37 undef=u37
        generalize aq.tmps.getD 38 undef=u38
        clear h hall
        have hE2:=hE.trans hEW
        have hr2:=hEW.get hr
        have hown2:OwnAp w.heap.size W u5 pre3:=Z00 hown hEW
        by_cases hs1:s=1
        ·have hb:(s !=1)=false:=by simp[hs1]
         have hH5:Hid (apA a b c L l=pre3++(apF a b c L P Q (u+1)++(apR a b c L P (l.drop (j+1))++apA a b c L (l.drop (i+1))))):=by show _=_;rw[hH4.out,if_pos hs1,List.nil_append]
         clear hH4 hs1
         go_wp2
         go_roundw
         case rel=>exact⟨u+1,pre3,by omega,by push_cast;rfl,hr2,hE2,hown2,hH5⟩
         case measure=>simp[intOf];omega
        ·have hb:(s !=1)=true:=by simp[hs1]
         have hH5:Hid (apA a b c L l=(pre3++[⟨P,Q,u,s⟩])++(apF a b c L P Q (u+1)++(apR a b c L P (l.drop (j+1))++apA a b c L (l.drop (i+1))))):=by show _=_;rw[hH4.out,if_neg hs1,List.append_assoc]
         clear hH4 hs1 q0 q1 q2 q3 q4
         have cp2:W.drew.cell? ⟨bb,ob+i,none⟩=some (.int .i64 P):=hEW.cellS cp
         have cq2:W.drew.cell? ⟨bb,ob+j,none⟩=some (.int .i64 Q):=hEW.cellS cq
         obtain⟨w9,hw9⟩:∃w9:World,w9=W.drew:=⟨_,rfl⟩
         have hE9:Ext w w9:=by rw[hw9];exact hE2.drew
         have hr9:w9.heap[w.heap.size]? =some (.cells #[.int .i64 a,.int .i64 b,.int .i64 c,.int .i64 m,.slice (some ⟨bs,off,none⟩) n cap] 26):=by rw[hw9];exact hr2
         have hown9:OwnAp w.heap.size w9 u5 pre3:=by rw[hw9];exact Z00 hown2 ((Ext.rfl' W).drew)
         rw[←hw9] at cp2 cq2
         have hA1:∀v w3,(OwnAp w.heap.size w3 v (pre3++[⟨P,Q,u,s⟩])∧Ext w w3∧(w9.alloc (.cells #[.int .i64 P,.int .i64 Q,.int .i64 u,.int .i64 s] 46)).grownBy w3 u5.ownBlock)→w3.cell? ⟨bb,ob+i,none⟩=some (.int .i64 P):=fun v w3 h=>h.2.1.cellS hcp
         have hA2:∀v w3,(OwnAp w.heap.size w3 v (pre3++[⟨P,Q,u,s⟩])∧Ext w w3∧(w9.alloc (.cells #[.int .i64 P,.int .i64 Q,.int .i64 u,.int .i64 s] 46)).grownBy w3 u5.ownBlock)→w3.cell? ⟨bb,ob+j,none⟩=some (.int .i64 Q):=fun v w3 h=>h.2.1.cellS hcq
         go_wp2_with fail
         refine Z03 (by kernel_rfl) (by kernel_rfl) (RI 56 [some 41,some 42,some 43,some 44,some 45,some 46,some 47,some 48,some 49,some 50,some 51,some 52,some 53,some 54,some 5] [some (u5),some (.slice (some ⟨bb,ob,none⟩) k cl),some (.int .i64 i),some (.pointer (some ⟨bb,ob+i,none⟩)),some (.int .i64 P),some (.slice (some ⟨bb,ob,none⟩) k cl),some (.int .i64 j),some (.pointer (some ⟨bb,ob+j,none⟩)),some (.int .i64 Q),some (.int .i64 u),some (.int .i64 s),some (.agg #[.int .i64 P,.int .i64 Q,.int .i64 u,.int .i64 s]),none,none,none] _ (R6 0 12 53 13 54 14 5 1 w9 #[.int .i64 P,.int .i64 Q,.int .i64 u,.int .i64 s] 46 (fun v w3=>OwnAp w.heap.size w3 v (pre3++[⟨P,Q,u,s⟩])∧Ext w w3∧(w9.alloc (.cells #[.int .i64 P,.int .i64 Q,.int .i64 u,.int .i64 s] 46)).grownBy w3 u5.ownBlock))) (by rw[←hw9];exact RI.start rfl rfl R6.start) (AllIx.arr ⟨?_,?_,?_,?_,?_,?_,?_,?_,?_,?_,?_,?_,?_,?_,?_,trivial⟩) ?_
         ·intro ℓ aq W2 hl hp h
          have e5:aq.tmps.getD 5 undef=u5:=h.out 5 (fun i hi=>by have hx:=apart_of (by decide) hi (show[some 41,some 42,some 43,some 44,some 45,some 46,some 47,some 48,some 49,some 50,some 51,some 52,some 53,some 54,some 5][14]? =some (some 5) from rfl);subst hx;exact h.mem.before hl)
          exact h.dg (hg:=Z4 rfl) (r:=by simp[go_sem,execOp,Act.eval,e5]) (m:=h.mem.keep rfl rfl)
         ·intro ℓ aq W2 hl hp h
          have e1:aq.tmps.getD 1 undef=Value.slice (some {block:=bb,off:=ob}) k cl:=h.at_out 1 rfl
          exact h.dg (hg:=Z4 rfl) (r:=by simp[go_sem,execOp,Act.eval,e1]) (m:=h.mem.keep rfl rfl)
         ·intro ℓ aq W2 hl hp h
          have e6:aq.tmps.getD 6 undef=Value.int IntKind.i64 (i:Int):=h.at_out 6 rfl
          exact h.dg (hg:=Z4 rfl) (r:=by simp[go_sem,execOp,Act.eval,e6]) (m:=h.mem.keep rfl rfl)
         ·intro ℓ aq W2 hl hp h
          have e42:=h.v hp 1 42
          have e43:=h.v hp 2 43
          exact h.dg (hg:=Z4 rfl) (r:=by simp[go_sem,execOp,Act.eval,e42,e43,hi']) (m:=h.mem.keep rfl rfl)
         ·intro ℓ aq W2 hl hp h
          have e44:=h.v hp 3 44
          have c0:=h.mem.cell cp2 hA1
          exact h.dg (hg:=Z4 rfl) (r:=by simp[go_sem,execOp,Act.eval,e44,c0]) (m:=h.mem.keep rfl rfl)
         ·intro ℓ aq W2 hl hp h
          have e1:aq.tmps.getD 1 undef=Value.slice (some {block:=bb,off:=ob}) k cl:=h.at_out 1 rfl
          exact h.dg (hg:=Z4 rfl) (r:=by simp[go_sem,execOp,Act.eval,e1]) (m:=h.mem.keep rfl rfl)
         ·intro ℓ aq W2 hl hp h
          have e7:aq.tmps.getD 7 undef=Value.int IntKind.i64 (j:Int):=h.at_out 7 rfl
          exact h.dg (hg:=Z4 rfl) (r:=by simp[go_sem,execOp,Act.eval,e7]) (m:=h.mem.keep rfl rfl)
         ·intro ℓ aq W2 hl hp h
          have e46:=h.v hp 5 46
          have e47:=h.v hp 6 47
          exact h.dg (hg:=Z4 rfl) (r:=by simp[go_sem,execOp,Act.eval,e46,e47,hj']) (m:=h.mem.keep rfl rfl)
         ·intro ℓ aq W2 hl hp h
          have e48:=h.v hp 7 48
          have c0:=h.mem.cell cq2 hA2
          exact h.dg (hg:=Z4 rfl) (r:=by simp[go_sem,execOp,Act.eval,e48,c0]) (m:=h.mem.keep rfl rfl)
         ·intro ℓ aq W2 hl hp h
          have e8:aq.tmps.getD 8 undef=Value.int IntKind.i64 (u:Int):=h.at_out 8 rfl
          exact h.dg (hg:=Z4 rfl) (r:=by simp[go_sem,execOp,Act.eval,e8]) (m:=h.mem.keep rfl rfl)
         ·intro ℓ aq W2 hl hp h
          have e9:aq.tmps.getD 9 undef=Value.int IntKind.i64 s:=h.at_out 9 rfl
          exact h.dg (hg:=Z4 rfl) (r:=by simp[go_sem,execOp,Act.eval,e9]) (m:=h.mem.keep rfl rfl)
         ·intro ℓ aq W2 hl hp h
          have e45:=h.v hp 4 45
          have e49:=h.v hp 8 49
          have e50:=h.v hp 9 50
          have e51:=h.v hp 10 51
          have fe45:=e45;simp only[Array.getD_eq_getD_getElem?] at fe45
          have fe49:=e49;simp only[Array.getD_eq_getD_getElem?] at fe49
          have fe50:=e50;simp only[Array.getD_eq_getD_getElem?] at fe50
          have fe51:=e51;simp only[Array.getD_eq_getD_getElem?] at fe51
          exact h.dg (hg:=Z4 rfl) (r:=by simp[go_sem,execOp,Act.eval,e45,e49,e50,e51,fe45,fe49,fe50,fe51]) (m:=h.mem.keep rfl rfl)
         ·intro ℓ aq W2 hl hp h
          have e52:=h.v hp 11 52
          have fe52:=e52;simp only[Array.getD_eq_getD_getElem?] at fe52
          exact h.detG rfl (Z4 rfl) rfl (by decide) rfl (by decide) (fun v' hv=>by simp at hv) (by simp[go_sem,execOp,Act.eval,e52,fe52]) (h.mem.make hl rfl)
         ·intro ℓ aq W2 hl hp h
          have e41:=h.v hp 0 41
          obtain⟨hw1,hx1⟩:=h.mem.s1 (hp 12 (by decide)) hl
          have e53:aq.tmps.getD 53 undef= .slice (some ⟨w9.heap.size,0,none⟩) 1 1:=hx1
          refine Z1X rfl (Z4 rfl) (wp_append_own W2 _ _ 35 rfl w.heap.size 46 Tryz.t46 (.agg #[.int .i64 0,.int .i64 0,.int .i64 0,.int .i64 0]) 4 32 Go.Proofs.Tryq.u35 i46 t46z t46s t46b rfl (by decide) u5 pre3.length (pre3.flatMap apC) (by simp[Act.eval,e41]) (by rw[hw1];exact World.ownsRow.alloc hown9 _) ⟨w9.heap.size,0,none⟩ 1 1 (apC ⟨P,Q,u,s⟩) (by simp[Act.eval,e53]) rfl (by rw[hw1];exact Z7G _ _ _ _ _ _) (by intro u hu;simp only[apC,List.mem_cons,List.not_mem_nil,or_false] at hu;rcases hu with rfl|rfl|rfl|rfl<;>rfl) (by simp[maxLen];omega) (by omega) (by rw[hw1];simp only[Z2];have:=hE9.size;omega) ?_)
          intro v' w3 hown3 hgr3 _
          rw[hw1] at hgr3
          exact h.put (by decide) rfl (by decide) (fun v' hv=>by simp at hv) (h.mem.app (hp 0 (by decide)) (hp 12 (by decide)) hl rfl ⟨by simpa[OwnAp,apC] using hown3,Ext.grown (hE9.alloc _) hgr3 (fun k hk=>(World.ownsRow.lt hown9 k hk).1),hgr3⟩)
         ·intro ℓ aq W2 hl hp h
          exact h.detG (v:=aq.tmps.getD 54 undef) rfl (Z4 rfl) rfl (by decide) rfl (by decide) (fun v' hv=>by simp at hv) (by simp[go_sem,execOp,Act.eval]) (h.mem.put (hp 13 (by decide)) rfl)
         ·intro ℓ aq W2 hall h
          have e54:aq.tmps.getD 5 undef=aq.tmps.getD 54 undef:=h.mem.s3 (hall 14 (by decide))
          obtain⟨hownF,hEF,hgF⟩:=h.mem.s2 (hall 13 (by decide))
          rw[←e54] at hownF
          have hrF:=(hgF.block _ (by simp only[Z2];have:=Z5 hr9;omega) (fun e=>OwnAp.ne hown9 hr9 (by decide) e.symm)).trans (((Ext.rfl' w9).alloc _).get hr9)
          have ea:=Z1z h.defers h.size
          simp only[List.range,List.range.loop,List.map] at ea
          rw[ea]
          clear ea e54
          rw[(show aq.tmps.getD 0 undef=Value.agg #[Value.int IntKind.i64 a,Value.int IntKind.i64 b,Value.int IntKind.i64 c,Value.int IntKind.i64 m,Value.slice (some {block:=bs,off:=off}) n cap] from h.at_out 0 rfl),(show aq.tmps.getD 1 undef=Value.slice (some {block:=bb,off:=ob}) k cl from h.at_out 1 rfl),(show aq.tmps.getD 2 undef=Value.pointer (some {block:=w.heap.size,off:=0}) from h.at_out 2 rfl),(show aq.tmps.getD 3 undef=undef from h.at_out 3 rfl),(show aq.tmps.getD 4 undef=Value.slice none 0 0 from h.at_out 4 rfl),(show aq.tmps.getD 6 undef=Value.int IntKind.i64 (i:Int) from h.at_out 6 rfl),(show aq.tmps.getD 7 undef=Value.int IntKind.i64 (j:Int) from h.at_out 7 rfl),(show aq.tmps.getD 8 undef=Value.int IntKind.i64 (u:Int) from h.at_out 8 rfl),(show aq.tmps.getD 9 undef=Value.int IntKind.i64 s from h.at_out 9 rfl),(show aq.tmps.getD 10 undef=Value.int IntKind.i64 (i:Int) from h.at_out 10 rfl),(show aq.tmps.getD 11 undef=Value.slice (some {block:=bb,off:=ob}) k cl from h.at_out 11 rfl),(show aq.tmps.getD 12 undef=Value.int IntKind.i64 (k:Int) from h.at_out 12 rfl),(show aq.tmps.getD 13 undef=Value.bool true from h.at_out 13 rfl),(show aq.tmps.getD 14 undef=u14 from h.at_out 14 rfl),(show aq.tmps.getD 15 undef=u15 from h.at_out 15 rfl),(show aq.tmps.getD 16 undef=Value.int IntKind.i64 (i:Int) from h.at_out 16 rfl),(show aq.tmps.getD 17 undef=Value.int IntKind.i64 ((i:Int)+1) from h.at_out 17 rfl),(show aq.tmps.getD 18 undef=Value.int IntKind.i64 (j:Int) from h.at_out 18 rfl),(show aq.tmps.getD 19 undef=Value.slice (some {block:=bb,off:=ob}) k cl from h.at_out 19 rfl),(show aq.tmps.getD 20 undef=Value.int IntKind.i64 (k:Int) from h.at_out 20 rfl),(show aq.tmps.getD 21 undef=Value.bool true from h.at_out 21 rfl),(show aq.tmps.getD 22 undef=u22 from h.at_out 22 rfl),(show aq.tmps.getD 23 undef=u23 from h.at_out 23 rfl),(show aq.tmps.getD 24 undef=Value.int IntKind.i64 (u:Int) from h.at_out 24 rfl),(show aq.tmps.getD 25 undef=Value.bool true from h.at_out 25 rfl),(show aq.tmps.getD 26 undef=u26 from h.at_out 26 rfl),(show aq.tmps.getD 27 undef=u27 from h.at_out 27 rfl),(show aq.tmps.getD 28 undef=u28 from h.at_out 28 rfl),(show aq.tmps.getD 29 undef=u29 from h.at_out 29 rfl),(show aq.tmps.getD 30 undef=u30 from h.at_out 30 rfl),(show aq.tmps.getD 31 undef=u31 from h.at_out 31 rfl),(show aq.tmps.getD 32 undef=u32 from h.at_out 32 rfl),(show aq.tmps.getD 33 undef=u33 from h.at_out 33 rfl),(show aq.tmps.getD 34 undef=u34 from h.at_out 34 rfl),(show aq.tmps.getD 35 undef=u35 from h.at_out 35 rfl),(show aq.tmps.getD 36 undef=u36 from h.at_out 36 rfl),(show aq.tmps.getD 37 undef=u37 from h.at_out 37 rfl),(show aq.tmps.getD 38 undef=u38 from h.at_out 38 rfl),(show aq.tmps.getD 39 undef=Value.int IntKind.i64 s from h.at_out 39 rfl),(show aq.tmps.getD 40 undef=Value.bool true from h.at_out 40 rfl),(show aq.tmps.getD 55 undef=undef from h.at_out 55 rfl)]
          generalize aq.tmps.getD 5 undef=u5n at*
          iterate 14 generalize aq.tmps.getD _ undef=ux
          clear h hall
          go_wp2
          go_roundw
          case rel=>exact⟨u+1,pre3++[⟨P,Q,u,s⟩],by omega,by push_cast;rfl,hrF,hEF,hownF,hH5⟩
          case measure=>simp[intOf];omega
end Go.Proofs.Tryq
namespace Go.Proofs.Tryq
set_option maxRecDepth 100000
set_option maxHeartbeats 4000000
open Go Go.Nk Go.RowKit
theorem ZaQ{A:List Ap}(h:A.any (fun x=>x.s==2)=false):Zr A=if A.length=0 then 1 else 0:=by
 unfold Zr
 rw[if_neg (by rw[h];decide)]
 cases A<;>rfl
theorem Z8J(a b c m:Int)(base:Option Addr)(n cap:Nat)(L:List Sf)(bl:Option Addr)(k cl:Nat)(l:List Int)(w:World)(hG:Good a b c L)(hlen:L.length=n)(hn:n≤20)(hk:l.length=k)(hk2:k≤100)(hin:∀p∈l,0≤p∧p<(n:Int))(hS:RawA w base L)(hl:RawI w bl l):
 Calls prog 89 #[.agg #[.int .i64 a,.int .i64 b,.int .i64 c,.int .i64 m,.slice base n cap],.slice bl k cl] w fun e w'=>e= .returned (.int .i64 (Zr (apA a b c L l)))∧Ext w w':=by
 have hap:=fun W hW=>Z4t a b c m base n cap L bl k cl l W hG hlen hn hk hk2 hin (hS.ext hW) (hl.ext hW)
 have hAl:(apA a b c L l).length≤30000:=by
  have h:=Z3K a b c L 100 l (by omega)
  have:3*100*l.length≤30000:=by omega
  omega
 generalize apA a b c L l=A at hap hAl⊢
 have H:Hid ((A.take 0).any (fun x=>x.s==2)=false):=rfl
 go_enter func89,ntmps89
 go_wp2_with (
  go_at_call 98;refine(hap _ ((Ext.rfl' w).alloc _)).mono ?_;rintro e w2 ⟨v,rfl,hv,hE2⟩
  obtain⟨ao,cp,rfl,hr⟩:=hv.rawAp
  have hE3:=((Ext.rfl' w).alloc _).trans hE2)
 clear hap hE2
 go_loopw [5,7] (fun v5 v7 wr=>∃i:Nat,i≤A.length∧v7= .int .i64 i∧v5= .int .i64 (if i=0 then 1 else 0)∧Ext w2 wr∧Hid ((A.take i).any (fun x=>x.s==2)=false)) (fun _ v7 _=>A.length - (intOf v7).toNat)
 case atStart=>exact⟨0,Nat.zero_le _,rfl,rfl,Ext.rfl' _,H⟩
 case round=>
  obtain⟨i,hi,rfl,rfl,hE,hH⟩:=hrel
  clear H
  by_cases hil:i=A.length
  ·have hz:Zr A=if i=0 then 1 else 0:=by
    have h2:=hH.out
    rw[hil,List.take_length] at h2
    rw[ZaQ h2,hil]
   have hil2:(i:Int)=(A.length:Int):=by omega
   clear hH
   generalize (if i=0 then(1:Int) else 0)=r at hz⊢
   go_wp2
   go_ret
   exact⟨ZK hz.symm,hE3.trans hE⟩
  ·have hlt:i<A.length:=by omega
   obtain⟨x,hx⟩:∃x,A[i]? =some x:=⟨_,List.getElem?_eq_getElem hlt⟩
   obtain⟨b',off,rfl,hb,c0,c1,c2,c3⟩:=(hr.ext hE) i x hx
   have hil0:(i:Int)<(A.length:Int):=by omega
   have hln:¬A.length≤i:=by omega
   have hiw:wrap64 ((i:Int)+1)=(i:Int)+1:=by unfold wrap64;omega
   generalize (if i=0 then(1:Int) else 0)=r
   by_cases hs:x.s=2
   ·have hz:Zr A=2:=by
     unfold Zr
     rw[if_pos]
     rw[List.any_eq_true]
     exact⟨x,List.mem_of_getElem? hx,by simp[hs]⟩
    rw[hs] at c3
    clear hH hx
    go_wp2
    go_ret
    exact⟨ZK (a:=2) hz.symm,hE3.trans hE⟩
   ·have hH2:Hid ((A.take (i+1)).any (fun x=>x.s==2)=false):=by
     show _=_
     rw[Z0G hx,List.any_append,hH.out]
     simp[hs]
    clear hH hx
    generalize x.s=xs at hs c3
    go_wp2
    exact⟨⟨i+1,by omega,by push_cast;rfl,rfl,hE,hH2⟩,by simp[intOf];omega⟩
theorem Z8K(a b c m:Int)(base:Option Addr)(n cap:Nat)(L:List Sf)(bl:Option Addr)(k cl:Nat)(l:List Int)(w:World)(hlen:L.length=n)(hn:n≤20)(hk:l.length=k)(hk2:k≤100)(hS:RawA w base L)(hl:RawI w bl l):
 Calls prog 24 #[.agg #[.int .i64 a,.int .i64 b,.int .i64 c,.int .i64 m,.slice base n cap],.slice bl k cl] w fun e w'=>e= .returned (.tuple #[.int .i64 (Z1M a b c m L l),.int .i64 (Zo a b c m L l)])∧Ext w w':=by
 have ho:=fun W hW=>Z26 a b c m base n cap L bl k cl l W hlen (by omega) hk (by omega) (hS.ext hW) (hl.ext hW)
 by_cases h:Zo a b c m L l=0
 ·obtain⟨hG,hin,_⟩:=Z1n h
  have hm:=fun W hW=>Z8J a b c m base n cap L bl k cl l W hG hlen hn hk hk2 (by rw[←hlen];exact hin) (hS.ext hW) (hl.ext hW)
  have hF:Z1M a b c m L l=Zr (apA a b c L l):=if_pos h
  rw[h] at ho⊢
  rw[hF]
  generalize Zr (apA a b c L l)=v at hm⊢
  go_enter func24,ntmps24
  go_wp2_with (first
   |(go_at_call 88;refine(ho _ ((Ext.rfl' w).alloc _)).mono ?_;rintro e w2 ⟨rfl,hE2⟩
     have g:=hE2.get ((Z3 _ _ _).trans (if_pos rfl))
     have q0:=Z0 g 0;have q1:=Z0 g 1;have q2:=Z0 g 2;have q3:=Z0 g 3;have q4:=Z0 g 4
     have hE3:=((Ext.rfl' w).alloc _).trans hE2
     simp only[List.getElem?_toArray,List.getElem?_cons_zero,List.getElem?_cons_succ] at q0 q1 q2 q3 q4)
   |(go_at_call 89;refine(hm _ hE3).mono ?_;rintro e w3 ⟨rfl,hE4⟩))
  go_ret2
  exact⟨rfl,hE3.trans hE4⟩
 ·have hF:Z1M a b c m L l=0:=if_neg h
  have hne:(Zo a b c m L l !=0)=true:=by simpa using h
  rw[hF]
  generalize Zo a b c m L l=f at ho hne⊢
  go_enter func24,ntmps24
  go_wp2_with (
   go_at_call 88;refine(ho _ ((Ext.rfl' w).alloc _)).mono ?_;rintro e w2 ⟨rfl,hE2⟩)
  go_ret2
  exact⟨rfl,((Ext.rfl' w).alloc _).trans hE2⟩
theorem Z8L(a b c m:Int)(base:Option Addr)(n cap:Nat)(L:List Sf)(bl:Option Addr)(k cl:Nat)(l:List Int)(w:World)(hlen:L.length=n)(hn:n≤20)(hk:l.length=k)(hk2:k≤100)(hS:RawA w base L)(hl:RawI w bl l):
 Calls prog 28 #[.agg #[.int .i64 a,.int .i64 b,.int .i64 c,.int .i64 m,.slice base n cap],.slice bl k cl] w fun e w'=>∃v,e= .returned (.tuple #[v,.int .i64 (Zo a b c m L l)])∧OwnAp w.heap.size w' v (Z0Q a b c m L l)∧Ext w w':=by
 have ho:=fun W hW=>Z26 a b c m base n cap L bl k cl l W hlen (by omega) hk (by omega) (hS.ext hW) (hl.ext hW)
 by_cases h:Zo a b c m L l=0
 ·obtain⟨hG,hin,_⟩:=Z1n h
  have hm:=fun W hW=>Z4t a b c m base n cap L bl k cl l W hG hlen hn hk hk2 (by rw[←hlen];exact hin) (hS.ext hW) (hl.ext hW)
  have hF:Z0Q a b c m L l=apA a b c L l:=if_pos h
  rw[h] at ho⊢
  rw[hF]
  generalize apA a b c L l=A at hm⊢
  go_enter func28,ntmps28
  go_wp2_with (first
   |(go_at_call 88;refine(ho _ ((Ext.rfl' w).alloc _)).mono ?_;rintro e w2 ⟨rfl,hE2⟩
     have g:=hE2.get ((Z3 _ _ _).trans (if_pos rfl))
     have q0:=Z0 g 0;have q1:=Z0 g 1;have q2:=Z0 g 2;have q3:=Z0 g 3;have q4:=Z0 g 4
     have hE3:=((Ext.rfl' w).alloc _).trans hE2
     simp only[List.getElem?_toArray,List.getElem?_cons_zero,List.getElem?_cons_succ] at q0 q1 q2 q3 q4)
   |(go_at_call 98;refine(hm _ hE3).mono ?_;rintro e w3 ⟨v,rfl,hv,hE4⟩))
  go_ret2
  exact⟨v,rfl,Z05 hv hE3.size,hE3.trans hE4⟩
 ·have hF:Z0Q a b c m L l=[]:=if_neg h
  have hne:(Zo a b c m L l !=0)=true:=by simpa using h
  rw[hF]
  generalize Zo a b c m L l=f at ho hne⊢
  go_enter func28,ntmps28
  go_wp2_with (
   go_at_call 88;refine(ho _ ((Ext.rfl' w).alloc _)).mono ?_;rintro e w2 ⟨rfl,hE2⟩)
  go_ret2
  exact⟨_,rfl,World.ownsRow_nil _ _ _ _,((Ext.rfl' w).alloc _).trans hE2⟩
def Z1B(L:List Sf):Bool:=decide (20<L.length)||L.any fun x=>decide (100<x.nm.size)
theorem ZaR(a b c m:Int)(base:Option Addr)(n cap:Nat)(L:List Sf)(w:World)(hlen:L.length=n)(hS:RawA w base L):
 Calls prog 21 #[.agg #[.int .i64 a,.int .i64 b,.int .i64 c,.int .i64 m,.slice base n cap]] w fun e w'=>e= .returned (.bool (Z1B L))∧Ext w w':=by
 by_cases h20:20<L.length
 ·have hz:Z1B L=true:=by rw[Z1B,decide_eq_true h20,Bool.true_or]
  have hn:(20:Int)<(n:Int):=by omega
  rw[hz]
  clear h20 hz
  go_enter func21,ntmps21
  go_wp2
  go_ret
  exact⟨rfl,(Ext.rfl' w).alloc _⟩
 ·have hn:(n:Int)≤20:=by omega
  have H:Hid (Z1B L=(L.drop 0).any fun x=>decide (100<x.nm.size)):=by show _=_;rw[Z1B,decide_eq_false h20,Bool.false_or];rfl
  clear h20
  go_enter func21,ntmps21
  go_wp2
  go_loopw [3] (fun v wr=>∃i:Nat,i≤n∧v= .int .i64 i∧wr.heap[w.heap.size]? =some (.cells #[.int .i64 a,.int .i64 b,.int .i64 c,.int .i64 m,.slice base n cap] 26)∧Ext w wr∧Hid (Z1B L=(L.drop i).any fun x=>decide (100<x.nm.size))) (fun v _=>n - (intOf v).toNat)
  case atStart=>exact⟨0,Nat.zero_le _,rfl,by rw[Z3,if_pos rfl],(Ext.rfl' w).alloc _,H⟩
  case round=>
   obtain⟨i,hi,rfl,hr,hE,hH⟩:=hrel
   clear H
   have q4:=Z0 hr 4
   simp only[List.getElem?_toArray,List.getElem?_cons_zero,List.getElem?_cons_succ] at q4
   by_cases hin:i=n
   ·subst hin
    have hz:Z1B L=false:=by rw[hH.out,←hlen,List.drop_length];rfl
    go_wp2
    go_ret
    exact⟨ZP (a:=false) hz.symm,hE⟩
   ·have hlt:i<n:=by omega
    obtain⟨x,hx⟩:∃x,L[i]? =some x:=⟨_,List.getElem?_eq_getElem (by omega)⟩
    obtain⟨b',off,rfl,hb,hs,hnm⟩:=(hS.ext hE) i x hx
    have k0:=hs.1
    have hst:Hid (Z1B L=(decide (100<x.nm.size)||(L.drop (i+1)).any fun x=>decide (100<x.nm.size))):=by show _=_;rw[hH.out,Z0b hx,List.any_cons]
    clear hH hx
    unfold maxLen at hnm
    have hin2:¬n≤i:=by omega
    by_cases h1:100<x.nm.size
    ·have hz:Z1B L=true:=by rw[hst.out,decide_eq_true h1,Bool.true_or]
     have h1':(100:Int)<(x.nm.size:Int):=by omega
     clear hst h1
     go_wp2
     go_ret
     exact⟨ZP (a:=true) hz.symm,hE⟩
    ·have hH2:Hid (Z1B L=(L.drop (i+1)).any fun x=>decide (100<x.nm.size)):=by show _=_;rw[hst.out,decide_eq_false h1,Bool.false_or]
     have h1':(x.nm.size:Int)≤100:=by omega
     clear hst h1
     go_wp2
     exact⟨⟨i+1,by omega,by push_cast;rfl,hr,hE,hH2⟩,by simp[intOf];omega⟩
end Go.Proofs.Tryq
