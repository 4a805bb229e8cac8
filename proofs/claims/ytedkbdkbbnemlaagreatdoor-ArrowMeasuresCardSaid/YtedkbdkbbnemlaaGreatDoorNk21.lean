import Derived.Test.YtedkbdkbbnemlaaGreatDoorNk20
import Derived.Deep.AppendLies
import Derived.LoopIn
import Derived.LoopNIn
import Derived.OwnWalk
import Derived.OwnWalkIn
import Derived.RangeFuncBound
import Derived.RangeFuncCalls
import Derived.RangeFuncLeaves
import Derived.RangeFuncNested
import Derived.TacticsInMore
import Derived.WalkMore
set_option linter.all false
namespace Go.Proofs.Tryq
set_option maxRecDepth 100000
set_option maxHeartbeats 4000000
open Go Go.Nk Go.RowKit
def Z2Q(N:Int)(p q:Int×Int):Int:=if p.2 - q.1<=N/\q.2 - p.1<=N then 1 else if N<max p.1 q.1 - min p.2 q.2 then 2 else 0
def Z1m(a b c:Int)(x y:Sf)(k:Nat):Int:=Z2Q (alw a b c k) (spA x k) (spA y k)
theorem Z0j{p:Int×Int}(h:ZF p=true):0<=p.1/\p.1<=p.2/\p.2<=9999:=by simpa[ZF] using h
theorem Z4Y(a b c m N:Int)(bs off n cap u f g o:Nat)(xa xb ya yb:Int)(i j:Nat)(w:World)(hu:u<3)(Dn:bs<w.heap.size)(hi:i<n)(hj:j<n)(hn:n<=20)
 (g0:w.cell? ⟨0,u*2,none⟩=some (.func (.func f) #[] #[]))(g1:w.cell? ⟨0,u*2+1,none⟩=some (.func (.func g) #[] #[]))
 (hf:∀(b off:Nat)(w:World),Calls prog f #[.pointer (some ⟨b,off,none⟩)] w fun e w'=>e= .returned (.pointer (some ⟨b,off+o,none⟩))/\w'=w)
 (hg:∀w,Calls prog g #[.agg #[.int .i64 a,.int .i64 b,.int .i64 c,.int .i64 m]] w fun e w'=>e= .returned (.int .i64 N)/\Ext w w')
 (F6:∀args w,(callFunc f args).run prog w= .ok (.enter f args) w)(hcg:∀args w,(callFunc g args).run prog w= .ok (.enter g args) w)
 (xl:w.cell? ⟨bs,off+i*7+o,none⟩=some (.int .i64 xa))(xh:w.cell? ⟨bs,off+i*7+o+1,none⟩=some (.int .i64 xb))(yl:w.cell? ⟨bs,off+j*7+o,none⟩=some (.int .i64 ya))(yh:w.cell? ⟨bs,off+j*7+o+1,none⟩=some (.int .i64 yb))
 (hN:0<=N/\N<=9999)(x1:0<=xa)(x2:xa<=xb)(x3:xb<=9999)(y1:0<=ya)(y2:ya<=yb)(y3:yb<=9999):
 Calls prog 143 #[.agg #[.int .i64 a,.int .i64 b,.int .i64 c,.int .i64 m,.slice (some ⟨bs,off,none⟩) n cap],.int .i64 i,.int .i64 j,.int .i64 u] w fun e w'=>e= .returned (.int .i64 (Z2Q N (xa,xb) (ya,yb)))/\Ext w w':=by
 have Qy:0<w.heap.size:=by omega
 have Lc:∀(v:World)(o:Obj)(off':Nat),0<v.heap.size->(v.alloc o).cell? ⟨0,off',none⟩=v.cell? ⟨0,off',none⟩:=fun v o off' h=>World.cell?_alloc_lt _ _ _ h
 obtain⟨n1,n2⟩:=hN;have Dy:(i:Int)<(n:Int):=by omega
 have K2:(j:Int)<(n:Int):=by omega
 have hu2:(u:Int)<3:=by omega
 have H:Hid (Z2Q N (xa,xb) (ya,yb)=Z2Q N (xa,xb) (ya,yb)):=rfl;generalize hr:Z2Q N (xa,xb) (ya,yb)=r at⊢;rw[hr] at H;replace H:Hid (r=Z2Q N (xa,xb) (ya,yb)):=hr.symm;clear hr;go_enter func143,ntmps143;go_wp2;have As:Ext w _:=((Ext.rfl' w).alloc (.cells #[.int .i64 a,.int .i64 b,.int .i64 c,.int .i64 m,.slice (some ⟨bs,off,none⟩) n cap] 120)).alloc (.cells #[.func (.func f) #[] #[],.func (.func g) #[] #[]] 169);have Jg:((w.alloc (.cells #[.int .i64 a,.int .i64 b,.int .i64 c,.int .i64 m,.slice (some ⟨bs,off,none⟩) n cap] 120)).alloc (.cells #[.func (.func f) #[] #[],.func (.func g) #[] #[]] 169)).heap[w.heap.size]? =some (.cells #[.int .i64 a,.int .i64 b,.int .i64 c,.int .i64 m,.slice (some ⟨bs,off,none⟩) n cap] 120):=by
  simp only[Z3,Z2];rw[if_neg (by omega),if_pos trivial]
 have B5:((w.alloc (.cells #[.int .i64 a,.int .i64 b,.int .i64 c,.int .i64 m,.slice (some ⟨bs,off,none⟩) n cap] 120)).alloc (.cells #[.func (.func f) #[] #[],.func (.func g) #[] #[]] 169)).heap[w.heap.size+1]? =some (.cells #[.func (.func f) #[] #[],.func (.func g) #[] #[]] 169):=by
  simp only[Z3,Z2];rw[if_pos trivial]
 clear Lc g0 g1;replace xl:=As.cellS xl;replace xh:=As.cellS xh;replace yl:=As.cellS yl;replace yh:=As.cellS yh;generalize World.alloc _ (.cells #[.func (.func f) #[] #[],.func (.func g) #[] #[]] 169)=w1 at As Jg B5 xl xh yl yh⊢;have q0:=Z0 Jg 0;have q1:=Z0 Jg 1;have q2:=Z0 Jg 2;have q3:=Z0 Jg 3;have q4:=Z0 Jg 4;have p0:=Z0 B5 0;have p1:=Z0 B5 1;simp only[List.getElem?_toArray,List.getElem?_cons_zero,List.getElem?_cons_succ] at q0 q1 q2 q3 q4 p0 p1;have Hw:=Z5 B5;refine Z03 (by kernel_rfl) (by kernel_rfl) (RI 73 [some 16,some 17,some 18,some 19,some 20,some 21,some 22,some 23,some 24,some 25,some 26,some 27,some 28,some 29,some 30,some 31,some 32,some 33,some 34,some 35,some 36,some 37,some 38,some 39,some 40,some 41,some 10,some 11,none,none,some 12] [some (.pointer (some ⟨w.heap.size+1,0,none⟩)),some (.func (.func f) #[] #[]),some (.pointer (some ⟨w.heap.size,0,none⟩)),some (.pointer (some ⟨w.heap.size,4,none⟩)),some (.slice (some ⟨bs,off,none⟩) n cap),some (.int .i64 i),some (.pointer (some ⟨bs,off+i*7,none⟩)),some (.pointer (some ⟨bs,off+i*7+o,none⟩)),some (.pointer (some ⟨bs,off+i*7+o,none⟩)),some (.agg #[.int .i64 xa,.int .i64 xb]),some (.pointer (some ⟨w.heap.size+1,0,none⟩)),some (.func (.func f) #[] #[]),some (.pointer (some ⟨w.heap.size,0,none⟩)),some (.pointer (some ⟨w.heap.size,4,none⟩)),some (.slice (some ⟨bs,off,none⟩) n cap),some (.int .i64 j),some (.pointer (some ⟨bs,off+j*7,none⟩)),some (.pointer (some ⟨bs,off+j*7+o,none⟩)),some (.pointer (some ⟨bs,off+j*7+o,none⟩)),some (.agg #[.int .i64 ya,.int .i64 yb]),some (.pointer (some ⟨w.heap.size+1,1,none⟩)),some (.func (.func g) #[] #[]),some (.pointer (some ⟨w.heap.size,0,none⟩)),some (.pointer (some ⟨w.heap.size,0,none⟩)),some (.agg #[.int .i64 a,.int .i64 b,.int .i64 c,.int .i64 m]),some (.int .i64 N),none,none,none,none,some (.int .i64 N)] _ (Bxs w1 [⟨26,10,28,#[.int .i64 0,.int .i64 0],#[.int .i64 xa,.int .i64 xb],48⟩,⟨27,11,29,#[.int .i64 0,.int .i64 0],#[.int .i64 ya,.int .i64 yb],48⟩])) (RI.start rfl rfl (Bxs.start w1 _ _)) (AllIx.arr ⟨?_,?_,?_,?_,?_,?_,?_,?_,?_,?_,?_,?_,?_,?_,?_,?_,?_,?_,?_,?_,?_,?_,?_,?_,?_,?_,?_,?_,?_,?_,?_,trivial⟩) ?_
 ·intro ℓ aq W hl hp h;have e9:aq.tmps.getD 9 undef= .pointer (some ⟨w.heap.size+1,0,none⟩):=h.at_out 9 rfl;exact h.dt (r:=by simp[go_sem,execOp,Act.eval,e9]) (m:=h.mem.k)
 ·intro ℓ aq W hl hp h;have e16:=h.v hp 0 16;have c0:=h.mem.1.cellS p0;exact h.dt (r:=by simp[go_sem,execOp,Act.eval,e16,c0]) (m:=h.mem.k)
 ·intro ℓ aq W hl hp h;have e4:aq.tmps.getD 4 undef= .pointer (some ⟨w.heap.size,0,none⟩):=h.at_out 4 rfl;exact h.dt (r:=by simp[go_sem,execOp,Act.eval,e4]) (m:=h.mem.k)
 ·intro ℓ aq W hl hp h;have e18:=h.v hp 2 18;exact h.dt (r:=by simp[go_sem,execOp,Act.eval,e18]) (m:=h.mem.k)
 ·intro ℓ aq W hl hp h;have e19:=h.v hp 3 19;have c0:=h.mem.1.cellS q4;exact h.dt (r:=by simp[go_sem,execOp,Act.eval,e19,c0]) (m:=h.mem.k)
 ·intro ℓ aq W hl hp h;have e1:aq.tmps.getD 1 undef= .int .i64 i:=h.at_out 1 rfl;exact h.dt (r:=by simp[go_sem,execOp,Act.eval,e1]) (m:=h.mem.k)
 ·intro ℓ aq W hl hp h;have e20:=h.v hp 4 20;have e21:=h.v hp 5 21;exact h.dt (r:=by simp[go_sem,execOp,Act.eval,e20,e21,Nat.not_le.2 hi]) (m:=h.mem.k)
 ·intro ℓ aq W hl hp h;have e17:=h.v hp 1 17;have e22:=h.v hp 6 22;refine h.call rfl rfl rfl (by decide) rfl (by decide) (f:=f) (args:= #[.pointer (some ⟨bs,off+i*7,none⟩)]) (by simp[go_sem,execOp,Act.eval,e17,e22,F6]) ?_;refine(hf _ _ _).mono ?_;rintro e W' ⟨rfl,hE⟩;subst hE;exact⟨.pointer (some ⟨bs,off+i*7+o,none⟩),rfl,(fun v' hv=>Option.some.inj (Option.some.inj hv)),h.mem.keep (Ext.rfl' _) rfl⟩
 ·intro ℓ aq W hl hp h;have e23:=h.v hp 7 23;exact h.dt (r:=by simp[go_sem,execOp,Act.eval,e23]) (m:=h.mem.k)
 ·intro ℓ aq W hl hp h;have e24:=h.v hp 8 24;have c0:=h.mem.1.cellS xl;have c1:=h.mem.1.cellS xh;exact h.dt (r:=by simp[go_sem,execOp,Act.eval,e24,c0,c1]) (m:=h.mem.k)
 ·intro ℓ aq W hl hp h;have e9:aq.tmps.getD 9 undef= .pointer (some ⟨w.heap.size+1,0,none⟩):=h.at_out 9 rfl;exact h.dt (r:=by simp[go_sem,execOp,Act.eval,e9]) (m:=h.mem.k)
 ·intro ℓ aq W hl hp h;have e26:=h.v hp 10 26;have c0:=h.mem.1.cellS p0;exact h.dt (r:=by simp[go_sem,execOp,Act.eval,e26,c0]) (m:=h.mem.k)
 ·intro ℓ aq W hl hp h;have e4:aq.tmps.getD 4 undef= .pointer (some ⟨w.heap.size,0,none⟩):=h.at_out 4 rfl;exact h.dt (r:=by simp[go_sem,execOp,Act.eval,e4]) (m:=h.mem.k)
 ·intro ℓ aq W hl hp h;have e28:=h.v hp 12 28;exact h.dt (r:=by simp[go_sem,execOp,Act.eval,e28]) (m:=h.mem.k)
 ·intro ℓ aq W hl hp h;have e29:=h.v hp 13 29;have c0:=h.mem.1.cellS q4;exact h.dt (r:=by simp[go_sem,execOp,Act.eval,e29,c0]) (m:=h.mem.k)
 ·intro ℓ aq W hl hp h;have e2:aq.tmps.getD 2 undef= .int .i64 j:=h.at_out 2 rfl;exact h.dt (r:=by simp[go_sem,execOp,Act.eval,e2]) (m:=h.mem.k)
 ·intro ℓ aq W hl hp h;have e30:=h.v hp 14 30;have e31:=h.v hp 15 31;exact h.dt (r:=by simp[go_sem,execOp,Act.eval,e30,e31,Nat.not_le.2 hj]) (m:=h.mem.k)
 ·intro ℓ aq W hl hp h;have e27:=h.v hp 11 27;have e32:=h.v hp 16 32;refine h.call rfl rfl rfl (by decide) rfl (by decide) (f:=f) (args:= #[.pointer (some ⟨bs,off+j*7,none⟩)]) (by simp[go_sem,execOp,Act.eval,e27,e32,F6]) ?_;refine(hf _ _ _).mono ?_;rintro e W' ⟨rfl,hE⟩;subst hE;exact⟨.pointer (some ⟨bs,off+j*7+o,none⟩),rfl,(fun v' hv=>Option.some.inj (Option.some.inj hv)),h.mem.keep (Ext.rfl' _) rfl⟩
 ·intro ℓ aq W hl hp h;have e33:=h.v hp 17 33;exact h.dt (r:=by simp[go_sem,execOp,Act.eval,e33]) (m:=h.mem.k)
 ·intro ℓ aq W hl hp h;have e34:=h.v hp 18 34;have c0:=h.mem.1.cellS yl;have c1:=h.mem.1.cellS yh;exact h.dt (r:=by simp[go_sem,execOp,Act.eval,e34,c0,c1]) (m:=h.mem.k)
 ·intro ℓ aq W hl hp h;have e9:aq.tmps.getD 9 undef= .pointer (some ⟨w.heap.size+1,0,none⟩):=h.at_out 9 rfl;exact h.dt (r:=by simp[go_sem,execOp,Act.eval,e9]) (m:=h.mem.k)
 ·intro ℓ aq W hl hp h;have e36:=h.v hp 20 36;have c0:=h.mem.1.cellS p1;exact h.dt (r:=by simp[go_sem,execOp,Act.eval,e36,c0]) (m:=h.mem.k)
 ·intro ℓ aq W hl hp h;have e4:aq.tmps.getD 4 undef= .pointer (some ⟨w.heap.size,0,none⟩):=h.at_out 4 rfl;exact h.dt (r:=by simp[go_sem,execOp,Act.eval,e4]) (m:=h.mem.k)
 ·intro ℓ aq W hl hp h;have e38:=h.v hp 22 38;exact h.dt (r:=by simp[go_sem,execOp,Act.eval,e38]) (m:=h.mem.k)
 ·intro ℓ aq W hl hp h;have e39:=h.v hp 23 39;have c0:=h.mem.1.cellS q0;have c1:=h.mem.1.cellS q1;have c2:=h.mem.1.cellS q2;have c3:=h.mem.1.cellS q3;exact h.dt (r:=by simp[go_sem,execOp,Act.eval,e39,c0,c1,c2,c3]) (m:=h.mem.k)
 ·intro ℓ aq W hl hp h;have e37:=h.v hp 21 37;have e40:=h.v hp 24 40;refine h.call rfl rfl rfl (by decide) rfl (by decide) (f:=g) (args:= #[.agg #[.int .i64 a,.int .i64 b,.int .i64 c,.int .i64 m]]) (by simp[go_sem,execOp,Act.eval,e37,e40,hcg]) ?_;refine(hg _).mono ?_;rintro e W' ⟨rfl,hE⟩;exact⟨.int .i64 N,rfl,(fun v' hv=>Option.some.inj (Option.some.inj hv)),h.mem.keep hE rfl⟩
 ·intro ℓ aq W hl hp h;exact h.det rfl rfl rfl (by decide) rfl (by decide) (fun v' hv=>by simp at hv) (by simp[go_sem,execOp,Act.eval]) (h.mem.make (c:=⟨26,10,28,#[.int .i64 0,.int .i64 0],#[.int .i64 xa,.int .i64 xb],48⟩) (by simp) rfl hl rfl (by intro e he hs;simp only[List.mem_cons,List.not_mem_nil,or_false] at he;rcases he with rfl|rfl<;>first|exact⟨rfl,rfl,rfl⟩|(simp at hs)))
 ·intro ℓ aq W hl hp h;exact h.det rfl rfl rfl (by decide) rfl (by decide) (fun v' hv=>by simp at hv) (by simp[go_sem,execOp,Act.eval]) (h.mem.make (c:=⟨27,11,29,#[.int .i64 0,.int .i64 0],#[.int .i64 ya,.int .i64 yb],48⟩) (by simp) rfl hl rfl (by intro e he hs;simp only[List.mem_cons,List.not_mem_nil,or_false] at he;rcases he with rfl|rfl<;>first|exact⟨rfl,rfl,rfl⟩|(simp at hs)))
 ·intro ℓ aq W hl hp h;have e25:=h.v hp 9 25;obtain⟨b9,x9,l9,m9⟩:=h.mem.2.1 ⟨26,10,28,#[.int .i64 0,.int .i64 0],#[.int .i64 xa,.int .i64 xb],48⟩ (by simp) (hp 26 (by decide));dsimp only at x9 m9;rw[hl] at m9;replace m9:W.heap[b9]? =some (.cells #[.int .i64 0,.int .i64 0] 48):=m9;have f9:=Z2z (u':= .int .i64 xa) (v':= .int .i64 xb) m9;have g9:=Zc m9;exact h.eff rfl rfl rfl rfl (by simp[go_sem,execOp,Act.eval,x9,g9.1,g9.2.1,g9.2.2.1,g9.2.2.2,e25]) (h.mem.fill (c:=⟨26,10,28,#[.int .i64 0,.int .i64 0],#[.int .i64 xa,.int .i64 xb],48⟩) (by simp) rfl (hp 26 (by decide)) rfl (by intro e he hs;simp only[List.mem_cons,List.not_mem_nil,or_false] at he;rcases he with rfl|rfl<;>first|exact⟨rfl,rfl,rfl⟩|(simp at hs)) x9 f9.2.2.1 f9.2.1 f9.2.2.2.1 f9.2.2.2.2.1 f9.2.2.2.2.2 f9.1)
 ·intro ℓ aq W hl hp h;have e35:=h.v hp 19 35;obtain⟨b9,x9,l9,m9⟩:=h.mem.2.1 ⟨27,11,29,#[.int .i64 0,.int .i64 0],#[.int .i64 ya,.int .i64 yb],48⟩ (by simp) (hp 27 (by decide));dsimp only at x9 m9;rw[hl] at m9;replace m9:W.heap[b9]? =some (.cells #[.int .i64 0,.int .i64 0] 48):=m9;have f9:=Z2z (u':= .int .i64 ya) (v':= .int .i64 yb) m9;have g9:=Zc m9;exact h.eff rfl rfl rfl rfl (by simp[go_sem,execOp,Act.eval,x9,g9.1,g9.2.1,g9.2.2.1,g9.2.2.2,e35]) (h.mem.fill (c:=⟨27,11,29,#[.int .i64 0,.int .i64 0],#[.int .i64 ya,.int .i64 yb],48⟩) (by simp) rfl (hp 27 (by decide)) rfl (by intro e he hs;simp only[List.mem_cons,List.not_mem_nil,or_false] at he;rcases he with rfl|rfl<;>first|exact⟨rfl,rfl,rfl⟩|(simp at hs)) x9 f9.2.2.1 f9.2.1 f9.2.2.2.1 f9.2.2.2.2.1 f9.2.2.2.2.2 f9.1)
 ·intro ℓ aq W hl hp h;have e41:=h.v hp 25 41;exact h.dt (r:=by simp[go_sem,execOp,Act.eval,e41]) (m:=h.mem.k)
 ·intro ℓ aq W Ah h;obtain⟨b0,x0,l0,m0⟩:=h.mem.2.1 ⟨26,10,28,#[.int .i64 0,.int .i64 0],#[.int .i64 xa,.int .i64 xb],48⟩ (by simp) (Ah 26 (by decide));dsimp only at x0 m0;rw[Ah 28 (by decide)] at m0;replace m0:W.heap[b0]? =some (.cells #[.int .i64 xa,.int .i64 xb] 48):=m0;obtain⟨b1,x1,l1,m1⟩:=h.mem.2.1 ⟨27,11,29,#[.int .i64 0,.int .i64 0],#[.int .i64 ya,.int .i64 yb],48⟩ (by simp) (Ah 27 (by decide));dsimp only at x1 m1;rw[Ah 29 (by decide)] at m1;replace m1:W.heap[b1]? =some (.cells #[.int .i64 ya,.int .i64 yb] 48):=m1;have B7:=h.mem.1;have ea:=Z1z h.defers h.size;simp only[List.range,List.range.loop,List.map] at ea;rw[ea];clear ea;rw[(show aq.tmps.getD 1 undef= .int .i64 i from h.at_out 1 rfl),(show aq.tmps.getD 2 undef= .int .i64 j from h.at_out 2 rfl),(show aq.tmps.getD 4 undef= .pointer (some ⟨w.heap.size,0,none⟩) from h.at_out 4 rfl),(show aq.tmps.getD 9 undef= .pointer (some ⟨w.heap.size+1,0,none⟩) from h.at_out 9 rfl),(show aq.tmps.getD 12 undef= .int .i64 N from h.vals 30 12 _ rfl rfl (Ah 30 (by decide))),x0,x1];iterate 66 generalize aq.tmps.getD _ undef=u
  clear h Ah;have A7:=As.trans B7;have g0:=Zc m0;have g00:=g0.1;have g01:=g0.2.1;have g1:=Zc m1;have g10:=g1.1;have g11:=g1.2.1;clear g0 g1;go_wp2
  all_goals
   go_ret;refine⟨ZK ?_,A7⟩;have HH:=H.out;simp only[Z2Q] at HH;rw[HH]
   (split<;>try split)
   all_goals first|rfl|(exfalso;simp at*;omega)
theorem Zae(a b c m:Int)(bs off n cap:Nat)(x y:Sf)(i j:Nat)(w:World)(hM:Meas w)(Dn:bs<w.heap.size)(hi:i<n)(hj:j<n)(hn:n<=20)
 (hx:ShaftAt w bs (off+i*7) x)(hy:ShaftAt w bs (off+j*7) y)(hN:0<=a/\a<=9999)(ox:ZF (spA x 0)=true)(oy:ZF (spA y 0)=true):
 Calls prog 143 #[.agg #[.int .i64 a,.int .i64 b,.int .i64 c,.int .i64 m,.slice (some ⟨bs,off,none⟩) n cap],.int .i64 i,.int .i64 j,.int .i64 0] w fun e w'=>e= .returned (.int .i64 (Z1m a b c x y 0))/\Ext w w':=
 Z4Y a b c m a bs off n cap 0 211 212 1 x.a0 x.a1 y.a0 y.a1 i j w (by omega) Dn hi hj hn (hM 0 (by omega)) (hM 1 (by omega)) Z7o (Z7r a b c m) call211 call212 hx.k1 hx.k2 hy.k1 hy.k2 hN (Z0j ox).1 (Z0j ox).2.1 (Z0j ox).2.2 (Z0j oy).1 (Z0j oy).2.1 (Z0j oy).2.2
theorem Zaf(a b c m:Int)(bs off n cap:Nat)(x y:Sf)(i j:Nat)(w:World)(hM:Meas w)(Dn:bs<w.heap.size)(hi:i<n)(hj:j<n)(hn:n<=20)
 (hx:ShaftAt w bs (off+i*7) x)(hy:ShaftAt w bs (off+j*7) y)(hN:0<=b/\b<=9999)(ox:ZF (spA x 1)=true)(oy:ZF (spA y 1)=true):
 Calls prog 143 #[.agg #[.int .i64 a,.int .i64 b,.int .i64 c,.int .i64 m,.slice (some ⟨bs,off,none⟩) n cap],.int .i64 i,.int .i64 j,.int .i64 1] w fun e w'=>e= .returned (.int .i64 (Z1m a b c x y 1))/\Ext w w':=
 Z4Y a b c m b bs off n cap 1 213 214 3 x.b0 x.b1 y.b0 y.b1 i j w (by omega) Dn hi hj hn (hM 2 (by omega)) (hM 3 (by omega)) Z7p (Z7s a b c m) call213 call214 hx.k3 hx.k4 hy.k3 hy.k4 hN (Z0j ox).1 (Z0j ox).2.1 (Z0j ox).2.2 (Z0j oy).1 (Z0j oy).2.1 (Z0j oy).2.2
theorem Zag(a b c m:Int)(bs off n cap:Nat)(x y:Sf)(i j:Nat)(w:World)(hM:Meas w)(Dn:bs<w.heap.size)(hi:i<n)(hj:j<n)(hn:n<=20)
 (hx:ShaftAt w bs (off+i*7) x)(hy:ShaftAt w bs (off+j*7) y)(hN:0<=c/\c<=9999)(ox:ZF (spA x 2)=true)(oy:ZF (spA y 2)=true):
 Calls prog 143 #[.agg #[.int .i64 a,.int .i64 b,.int .i64 c,.int .i64 m,.slice (some ⟨bs,off,none⟩) n cap],.int .i64 i,.int .i64 j,.int .i64 2] w fun e w'=>e= .returned (.int .i64 (Z1m a b c x y 2))/\Ext w w':=
 Z4Y a b c m c bs off n cap 2 215 216 5 x.c0 x.c1 y.c0 y.c1 i j w (by omega) Dn hi hj hn (hM 4 (by omega)) (hM 5 (by omega)) Z7q (Z7t a b c m) call215 call216 hx.k5 hx.k6 hy.k5 hy.k6 hN (Z0j ox).1 (Z0j ox).2.1 (Z0j ox).2.2 (Z0j oy).1 (Z0j oy).2.1 (Z0j oy).2.2
end Go.Proofs.Tryq
namespace Go.Proofs.Tryq
set_option maxRecDepth 100000
set_option maxHeartbeats 4000000
open Go Go.Nk Go.RowKit
attribute [local go_sem] Oper.semAt_some
structure Ap where
 p:Int
 q:Int
 k:Int
 s:Int
def apE(a b c:Int)(L:List Sf)(p q:Int)(k:Nat):List Ap:=match L[p.toNat]?,L[q.toNat]? with
 |some x,some y=>if Z1m a b c x y k=1 then[] else[⟨p,q,k,Z1m a b c x y k⟩]
 |_,_=>[]
def apP(a b c:Int)(L:List Sf)(p q:Int):List Ap:=apE a b c L p q 0++(apE a b c L p q 1++apE a b c L p q 2)
def apR(a b c:Int)(L:List Sf)(p:Int)(t:List Int):List Ap:=t.flatMap (apP a b c L p)
def apA(a b c:Int)(L:List Sf):List Int->List Ap
 |[]=>[]
 |p::t=>apR a b c L p t++apA a b c L t
def Zdt(x:Ap):Array Value:= #[.agg #[.int .i64 x.p,.int .i64 x.q,.int .i64 x.k,.int .i64 x.s]]
theorem Z3I{w w':World}(h:Ext w w'):w.grownBy w' none:=⟨h.os,h.tape,h.output,h.size,fun k hk _=>h.old k hk⟩
theorem Z3J{P:Program}{n:Nat}{c:Code}{Q:Exit->Act->World->Prop}{a:Act}{w:World}(h:c.wpIn Fence.wide n P (Exit.noGoto Q) a w):c.scope.wpIn Fence.wide n P Q a w:=wpIn_wide.2 (wp_scope_straight (wpIn_wide.1 h))
structure BelowX(B sb:Nat)(w w':World):Prop where
 os:w'.os=w.os
 tape:w'.tape=w.tape
 output:w'.output=w.output
 size:w.heap.size<=w'.heap.size
 block:∀k,k<B->k≠sb->w'.heap[k]? =w.heap[k]?
theorem BelowX.refl(B sb:Nat)(w:World):BelowX B sb w w:=⟨rfl,rfl,rfl,Nat.le_refl _,fun _ _ _=>rfl⟩
theorem BelowX.trans{B sb:Nat}{a b c:World}(h:BelowX B sb a b)(k:BelowX B sb b c):BelowX B sb a c:=
 ⟨k.os.trans h.os,k.tape.trans h.tape,k.output.trans h.output,Nat.le_trans h.size k.size,fun i hi hn=>(k.block i hi hn).trans (h.block i hi hn)⟩
theorem BelowX.cell{B sb:Nat}{w w':World}(h:BelowX B sb w w'){p:Addr}(hp:p.block<B)(hn:p.block≠sb):w'.cell? p=w.cell? p:=by simp only[World.cell?,h.block _ hp hn]
theorem Z15{w w':World}{n₀ sb:Nat}(h:Ext w w')(hn:n₀<=w.heap.size):BelowX n₀ sb w w':=⟨h.os,h.tape,h.output,h.size,fun k hk _=>h.old k (by omega)⟩
theorem Z7D(a b c:Int)(L:List Sf){l:List Int}{i:Nat}{p:Int}(h:l[i]? =some p):apA a b c L (l.drop i)=apR a b c L p (l.drop (i+1))++apA a b c L (l.drop (i+1)):=by rw[Z0b h];rfl
theorem Z7E(a b c:Int)(L:List Sf)(p:Int){t:List Int}{j:Nat}{q:Int}(h:t[j]? =some q):apR a b c L p (t.drop j)=apP a b c L p q++apR a b c L p (t.drop (j+1)):=by rw[Z0b h];rfl
structure Good(a b c:Int)(L:List Sf):Prop where
 ha:0<=a/\a<=9999
 hb:0<=b/\b<=9999
 hc:0<=c/\c<=9999
 ok:∀x∈L,Z8b x=true
theorem Good.ins{a b c:Int}{L:List Sf}(h:Good a b c L){x:Sf}(hx:x∈L):ZF (spA x 0)=true/\ZF (spA x 1)=true/\ZF (spA x 2)=true:=by
 have:=h.ok x hx;simp only[Z8b,Bool.and_eq_true] at this;exact⟨this.1.1,this.1.2,this.2⟩
theorem ZbR(a b c m:Int)(base:Option Addr)(n cap:Nat)(L:List Sf)(x y:Sf)(i j k:Nat)(hk:k<3)(w:World)(hG:Good a b c L)(hM:Meas w)(hS:RawA w base L)(A2:L.length=n)(hn:n<=20)
 (hx:L[i]? =some x)(hy:L[j]? =some y):
 Calls prog 143 #[.agg #[.int .i64 a,.int .i64 b,.int .i64 c,.int .i64 m,.slice base n cap],.int .i64 i,.int .i64 j,.int .i64 k] w fun e w'=>e= .returned (.int .i64 (Z1m a b c x y k))/\Ext w w':=by
 obtain⟨b1,o1,e1,B5,sx,_⟩:=hS i x hx;obtain⟨b2,o2,e2,Ar,sy,_⟩:=hS j y hy;subst e1;simp only[Option.some.injEq,Addr.mk.injEq,and_true] at e2;obtain⟨rfl,rfl⟩:=e2;have hi:=(List.getElem?_eq_some_iff.1 hx).1;have hj:=(List.getElem?_eq_some_iff.1 hy).1;have ix:=hG.ins (List.mem_of_getElem? hx);have iy:=hG.ins (List.mem_of_getElem? hy);obtain rfl|rfl|rfl:k=0\/k=1\/k=2:=by omega
 ·exact Zae a b c m b1 o1 n cap x y i j w hM B5 (by omega) (by omega) hn sx sy hG.ha ix.1 iy.1
 ·exact Zaf a b c m b1 o1 n cap x y i j w hM B5 (by omega) (by omega) hn sx sy hG.hb ix.2.1 iy.2.1
 ·exact Zag a b c m b1 o1 n cap x y i j w hM B5 (by omega) (by omega) hn sx sy hG.hc ix.2.2 iy.2.2
theorem Z4f(a b c m:Int)(base:Option Addr)(n cap:Nat)(L:List Sf)(bl:Option Addr)(kl cl:Nat)(l:List Int)(sl ss n₀ sb:Nat)(yl:Nat)(J Jx:List Ap->World->Prop)
 (hY:∀pre x W1,J pre W1->(pre++[x])<+:apA a b c L l->YieldAt Fence.wide 4 prog yl (Zdt x) W1 fun e W'=>(e= .returned (.bool true)/\J (pre++[x]) W'/\BelowX n₀ sb W1 W')\/(e= .returned (.bool false)/\Jx (pre++[x]) W'))
 (W:World)(hJ:∀pre w w',J pre w->Ext w w'->J pre w')
 (hG:Good a b c L)(A2:L.length=n)(hn:n<=20)(Ew:l.length=kl)(Hn:kl<=cl)(B1:kl<=100)(Aq:∀p∈l,0<=p/\p<n)
 (hs:W.heap[ss]? =some (.cells #[.int .i64 a,.int .i64 b,.int .i64 c,.int .i64 m,.slice base n cap] 120))(hl:W.heap[sl]? =some (.cells #[.slice bl kl cl] 27))(Hi:n₀<=W.heap.size)(hsn:ss<n₀)(hln:sl<n₀)(Ft:ss≠sb)(Ts:sl≠sb)
 (hK:∀w',BelowX n₀ sb W w'->Meas w'/\RawA w' base L/\RawI w' bl l)(h0:J [] W):
 CallsIn Fence.wide 5 prog 142 #[.func (.yield yl) #[] #[],.pointer (some ⟨sl,0,none⟩),.pointer (some ⟨ss,0,none⟩)] W fun e W'=>(∃v,e= .returned v)/\((∃xs,xs=apA a b c L l/\J xs W')\/(∃pre,pre<+:apA a b c L l/\Jx pre W')):=by
 have q0:=Z0 hl 0;simp only[List.getElem?_toArray,List.getElem?_cons_zero] at q0;refine callsIn_of_wp func142 rfl trivial ?_ rfl;simp only[ntmps142,List.size_toArray,List.length_cons,List.length_nil,Nat.reduceAdd,Nat.reduceSub,Array.replicate_succ,Array.replicate_zero,List.push_toArray,List.append_toArray,List.nil_append,List.cons_append];refine Z3J ?_
 gi_wp2
 refine wpIn_label ?_
 gi_wp2
 gi_loopw [12] (fun v wr=>∃i:Nat,i<=kl/\v= .int .i64 i/\BelowX n₀ sb W wr/\∃pre,J pre wr/\Hid (apA a b c L l=pre++apA a b c L (l.drop i))) (fun v _=>kl - (intOf v).toNat)
 case atStart=>exact⟨0,Nat.zero_le _,rfl,BelowX.refl _ _ _,[],h0,rfl⟩
 case round=>
  obtain⟨i,hi,rfl,hB,pre,Tu,hH⟩:=hrel;by_cases hik:i=kl
  ·subst hik;have hz:apA a b c L l=pre:=by rw[hH.out,<-Ew,List.drop_length];simp[apA]
   gi_wp2
   rw[Exit.noGoto_normal]
   go_end0
   exact⟨⟨_,rfl⟩,.inl ⟨_,rfl,by rw[hz];exact Tu⟩⟩
  ·have A3:i<kl:=by omega
   obtain⟨p,hp⟩:∃p,l[i]? =some p:=⟨_,List.getElem?_eq_getElem (by omega)⟩;obtain⟨hM,hS,hI⟩:=hK wr hB;obtain⟨b',o',rfl,hb',hc'⟩:=hI i p hp;have Hj:wr.cell? ⟨sl,0,none⟩=some (.slice (some ⟨b',o',none⟩) kl cl):=(hB.cell (p:=⟨sl,0,none⟩) hln Ts).trans q0;have Ow:Hid (apA a b c L l=pre++(apR a b c L p (l.drop (i+1))++apA a b c L (l.drop (i+1)))):=by show _=_;rw[hH.out,Z7D a b c L hp]
   clear hH;by_cases E5:cl=i+1
   ·have Vx:kl=i+1:=(by omega);subst E5;subst Vx;have Ee:Hid (apA a b c L l=pre++apA a b c L (l.drop (i+1))):=(by show _=_;rw[Ow.out,<-Ew,List.drop_length];simp[apR]);clear Ow
    gi_wp2
    obtain⟨wo,rfl⟩:∃wo:World,wo=wr:=⟨_,rfl⟩
    gi_loopw [22] (fun v wr=>v= .int .i64 0/\wr=wo) (fun _ _=>0)
    case atStart=>exact⟨rfl,rfl⟩
    case round=>
     obtain⟨rfl,rfl⟩:=hrel
     gi_wp2
     go_roundw
     case rel=>exact⟨i+1,by omega,by push_cast;rfl,hB,pre,Tu,Ee⟩
     case measure=>simp[intOf]
   ·have hcap2:i+1<cl:=(by omega);have E7:¬(i+1=cl):=by omega
    gi_wp2
    obtain⟨wo,rfl⟩:∃wo:World,wo=wr:=⟨_,rfl⟩;have Nd:=Aq p (List.mem_of_getElem? hp);obtain⟨p',rfl⟩:=Int.eq_ofNat_of_zero_le Nd.1;obtain⟨x,hx⟩:∃x,L[p']? =some x:=⟨_,List.getElem?_eq_getElem (by omega)⟩;clear hp hM hS hI hc' Hj hb'
    gi_loopw [22] (fun v wr=>∃j:Nat,j<=kl - (i+1)/\v= .int .i64 j/\BelowX n₀ sb W wr/\∃pre,J pre wr/\Hid (apA a b c L l=pre++(apR a b c L p' ((l.drop (i+1)).drop j)++apA a b c L (l.drop (i+1))))) (fun v _=>kl - (i+1) - (intOf v).toNat)
    case atStart=>exact⟨0,Nat.zero_le _,rfl,hB,pre,Tu,Ow⟩
    case round=>
     obtain⟨j,hj,rfl,Nf,pre2,Vy,Ee⟩:=hrel;clear Tu Ow hB;by_cases Gd:j=kl - (i+1)
     ·have Ox:Hid (apA a b c L l=pre2++apA a b c L (l.drop (i+1))):=by
       show _=_;rw[Ee.out,List.drop_drop,List.drop_of_length_le (by omega)];rfl
      have Jp:¬j<kl - (i+1):=(by omega);have F5:kl - (i+1)<=j:=(by omega);clear Ee
      gi_wp2
      go_roundw
      case rel=>exact⟨i+1,by omega,by push_cast;rfl,Nf,pre2,Vy,Ox⟩
      case measure=>simp[intOf];omega
     ·have K2:j<kl - (i+1):=(by omega);obtain⟨q,hq⟩:∃q,l[i+1+j]? =some q:=⟨_,List.getElem?_eq_getElem (by omega)⟩;have hqn:=Aq q (List.mem_of_getElem? hq);obtain⟨q',rfl⟩:=Int.eq_ofNat_of_zero_le hqn.1;obtain⟨y,hy⟩:∃y,L[q']? =some y:=⟨_,List.getElem?_eq_getElem (by omega)⟩;have Ox:Hid (apA a b c L l=pre2++(((List.range 3).drop 0).flatMap (apE a b c L p' q')++(apR a b c L p' ((l.drop (i+1)).drop (j+1))++apA a b c L (l.drop (i+1))))):=by
       show _=_;rw[Ee.out,Z7E a b c L p' (q:=(q':Int)) (by rw[List.getElem?_drop];exact hq)];simp[apP,List.range,List.range.loop]
      obtain⟨hM,hS,hI⟩:=hK wr Nf;obtain⟨b2,o2,Gq,Ar,E0⟩:=hI (i+1+j) q' hq;simp only[Option.some.injEq,Addr.mk.injEq,and_true] at Gq;obtain⟨rfl,rfl⟩:=Gq;have Oy:wr.cell? ⟨b',o'+(i+1)+j,none⟩=some (.int .i64 q'):=(by rw[Nat.add_assoc];exact E0);clear E0 Ee hq
      gi_wp2
      obtain⟨w3,rfl⟩:∃w3:World,w3=wr:=⟨_,rfl⟩;clear hM hS hI Oy Ar
      gi_loopw [26] (fun v wr=>∃k:Nat,k<=3/\v= .int .i64 k/\BelowX n₀ sb W wr/\∃pre,J pre wr/\Hid (apA a b c L l=pre++(((List.range 3).drop k).flatMap (apE a b c L p' q')++(apR a b c L p' ((l.drop (i+1)).drop (j+1))++apA a b c L (l.drop (i+1)))))) (fun v _=>3 - (intOf v).toNat)
      case atStart=>exact⟨0,Nat.zero_le _,rfl,Nf,pre2,Vy,Ox⟩
      case round=>
       obtain⟨k,hk,rfl,Ng,pre3,Vz,Tv⟩:=hrel;clear Vy Nf Ox;by_cases hk3:k=3
       ·subst hk3;have Oz:Hid (apA a b c L l=pre3++(apR a b c L p' ((l.drop (i+1)).drop (j+1))++apA a b c L (l.drop (i+1)))):=(by show _=_;rw[Tv.out];rfl);clear Tv
        gi_wp2
        go_roundw
        case rel=>exact⟨j+1,by omega,by push_cast;rfl,Ng,pre3,Vz,Oz⟩
        case measure=>simp[intOf];omega
       ·have B1:k<3:=(by omega);obtain⟨hM,hS,_⟩:=hK wr Ng;have Qz:=(Ng.block ss hsn Ft).trans hs;have s0:=Z0 Qz 0;have s1:=Z0 Qz 1;have s2:=Z0 Qz 2;have s3:=Z0 Qz 3;have s4:=Z0 Qz 4;simp only[List.getElem?_toArray,List.getElem?_cons_zero,List.getElem?_cons_succ] at s0 s1 s2 s3 s4;have Ej:=ZbR a b c m base n cap L x y p' q' k B1 wr hG hM hS A2 hn hx hy;have Oz:Hid (apA a b c L l=pre3++(apE a b c L p' q' k++(((List.range 3).drop (k+1)).flatMap (apE a b c L p' q')++(apR a b c L p' ((l.drop (i+1)).drop (j+1))++apA a b c L (l.drop (i+1)))))):=by
         show _=_;rw[Tv.out,Z0b (i:=k) (x:=k) (by simp[B1]),List.flatMap_cons,List.append_assoc]
        have R0:Hid (apE a b c L p' q' k=if Z1m a b c x y k=1 then[] else[⟨p',q',k,Z1m a b c x y k⟩]):=(by show _=_;unfold apE;simp only[Int.toNat_natCast,hx,hy]);clear Tv;generalize Z1m a b c x y k=s at Ej R0;by_cases Ci:s=1
        ·subst Ci;have R1:Hid (apA a b c L l=pre3++(((List.range 3).drop (k+1)).flatMap (apE a b c L p' q')++(apR a b c L p' ((l.drop (i+1)).drop (j+1))++apA a b c L (l.drop (i+1))))):=(by show _=_;rw[Oz.out,R0.out];rfl);clear Oz R0
         gi_wp2_with (first
          |(refine⟨trivial,?_⟩;gi_at_call 143;refine(callsIn_wide.2 Ej).mono ?_;rintro e w2 ⟨rfl,A7⟩))
         refine⟨fun _ h=>(by cases h),?_⟩
         gi_wp2
         go_roundw
         case rel=>exact⟨k+1,by omega,by push_cast;rfl,Ng.trans (Z15 (A7.alloc _) (Nat.le_trans Hi Ng.size)),pre3,hJ _ _ _ Vz (A7.alloc _),R1⟩
         case measure=>simp[intOf];omega
        ·have A8:((s:Int) !=1)=true:=(by simpa using Ci);have R1:Hid (apA a b c L l=(pre3++[⟨p',q',k,s⟩])++(((List.range 3).drop (k+1)).flatMap (apE a b c L p' q')++(apR a b c L p' ((l.drop (i+1)).drop (j+1))++apA a b c L (l.drop (i+1))))):=(by show _=_;rw[Oz.out,R0.out,if_neg Ci];simp);clear Oz R0 Ci
         gi_wp2_with (first
          |(refine⟨trivial,?_⟩;gi_at_call 143;refine(callsIn_wide.2 Ej).mono ?_;rintro e w2 ⟨rfl,A7⟩
            obtain⟨fn9,tmps9,assign9,body9,hy9,W4⟩:=hY pre3 ⟨p',q',k,s⟩ (w2.alloc (.cells #[.int .i64 p',.int .i64 q',.int .i64 k,.int .i64 s] 46)) (hJ _ _ _ Vz (A7.alloc _)) (by rw[R1.out];exact List.prefix_append _ _);dsimp only[Zdt] at hy9))
         refine W4.mono ?_;rintro e W3 (⟨rfl,hJ9,Q8⟩|⟨rfl,W5⟩)
         ·gi_wp2
          go_roundw
          case rel=>exact⟨k+1,by omega,by push_cast;rfl,(Ng.trans (Z15 (A7.alloc _) (Nat.le_trans Hi Ng.size))).trans Q8,_,hJ9,R1⟩
          case measure=>simp[intOf];omega
         ·gi_wp2
          rw[Exit.noGoto_normal];refine bodyPost_end (results_none rfl _ _ _) rfl ?_;exact⟨⟨_,rfl⟩,.inr ⟨_,by rw[R1.out];exact List.prefix_append _ _,W5⟩⟩
theorem Z5W(a b c m:Int)(base:Option Addr)(n cap:Nat)(bl:Option Addr)(kl cl:Nat)(w:World):Calls prog 97 #[.agg #[.int .i64 a,.int .i64 b,.int .i64 c,.int .i64 m,.slice base n cap],.slice bl kl cl] w fun e w'=>
 e= .returned (.func (.func 142) #[] #[.pointer (some ⟨w.heap.size+1,0,none⟩),.pointer (some ⟨w.heap.size,0,none⟩)])/\w'=(w.alloc (.cells #[.int .i64 a,.int .i64 b,.int .i64 c,.int .i64 m,.slice base n cap] 120)).alloc (.cells #[.slice bl kl cl] 27):=by
 go_enter func97,ntmps97;go_wp2;go_ret;exact⟨rfl,rfl⟩
def Zr(A:List Ap):Int:=if A.any (fun x=>x.s==2) then 2 else if A.isEmpty then 1 else 0
theorem Z6M(N:Int)(p q:Int×Int):Z2Q N p q=0\/Z2Q N p q=1\/Z2Q N p q=2:=by
 unfold Z2Q;split
 ·exact .inr (.inl rfl)
 ·split
  ·exact .inr (.inr rfl)
  ·exact .inl rfl
theorem apE_s{a b c:Int}{L:List Sf}{p q:Int}{k:Nat}:∀x∈apE a b c L p q k,x.s=0\/x.s=2:=by
 intro x hx;unfold apE at hx;split at hx
 ·rename_i y z _ _;have h3:=Z6M (alw a b c k) (spA y k) (spA z k);change Z1m a b c y z k=0\/Z1m a b c y z k=1\/Z1m a b c y z k=2 at h3;split at hx
  ·cases hx
  ·rename_i A8;simp only[List.mem_singleton] at hx;subst hx;rcases h3 with h|h|h
   ·exact .inl h
   ·exact absurd h A8
   ·exact .inr h
 ·cases hx
theorem Zen{a b c:Int}{L:List Sf}:∀{l:List Int}(x:Ap),x∈apA a b c L l->x.s=0\/x.s=2
 |[],x,hx=>by cases hx
 |p::t,x,hx=>by
  rcases List.mem_append.1 hx with hx|hx
  ·obtain⟨q,_,hq⟩:=List.mem_flatMap.1 hx;simp only[apP,List.mem_append] at hq;rcases hq with hq|hq|hq<;>exact apE_s x hq
  ·exact Zen x hx
theorem BelowX.ext{n₀ sb:Nat}{w W w':World}(h:BelowX n₀ sb W w')(e:Ext w W)(h1:w.heap.size<=sb)(h2:w.heap.size<=n₀):Ext w w':=
 ⟨Nat.le_trans e.size h.size,fun b hb=>(h.block b (by omega) (by omega)).trans (e.old b hb),h.tape.trans e.tape,h.os.trans e.os,h.output.trans e.output⟩
def sayF:List Ap->Int
 |[]=>1
 |x::l=>(l.getLast?.getD x).s
theorem Zah(l:List Ap)(x:Ap):sayF (l++[x])=x.s:=by
 cases l with
 |nil=>rfl
 |cons y l=>simp[sayF]
theorem sayF_match:∀{l:List Ap},(∀x∈l,x.s=0)->sayF l=Zr l
 |[],_=>rfl
 |x::l,h=>by
  have h1:(x::l).any (fun x=>x.s==2)=false:=by
   rw[List.any_eq_false];intro y hy;rw[h y hy];decide
  simp only[Zr,h1,List.isEmpty_cons,sayF];refine h _ ?_;cases hl:l.getLast? with
  |none=>exact List.mem_cons_self
  |some y=>exact List.mem_cons_of_mem _ (List.mem_of_getLast? hl)
theorem Zai{w W:World}(h:Ext w W){D:Nat}{o:Obj}(hD:w.heap.size<=D):Ext w (W.putObj D o):=
 ⟨by rw[World.putObj_size];exact h.size,fun b hb=>(World.putObj_heap_other (by omega)).trans (h.old b hb),h.tape,h.os,h.output⟩
theorem Z5X(a b c m:Int)(base:Option Addr)(n cap:Nat)(L:List Sf)(bl:Option Addr)(kl cl:Nat)(l:List Int)(w:World)
 (hG:Good a b c L)(A2:L.length=n)(hn:n<=20)(Ew:l.length=kl)(Hn:kl<=cl)(B1:kl<=100)(Aq:∀p∈l,0<=p/\p<n)
 (hM:Meas w)(hS:RawA w base L)(hI:RawI w bl l):
 Calls prog 87 #[.agg #[.int .i64 a,.int .i64 b,.int .i64 c,.int .i64 m,.slice base n cap],.slice bl kl cl] w fun e w'=>e= .returned (.int .i64 (Zr (apA a b c L l)))/\Ext w w':=by
 refine(callsIn_wide (n:=6)).1 ?_;refine callsIn_of_wp_marks func87 rfl trivial ?_ rfl;simp only[ntmps87,List.size_toArray,List.length_cons,List.length_nil,Nat.reduceAdd,Nat.reduceSub,Array.replicate_succ,Array.replicate_zero,List.push_toArray,List.append_toArray,List.nil_append,List.cons_append]
 gi_wp2_with (refine⟨trivial,?_⟩;gi_at_call 97;refine(callsIn_wide.2 (Z5W _ _ _ _ _ _ _ _ _ _ _)).mono ?_;rintro e w' ⟨rfl,rfl⟩)
 have As:Ext w ((((w.alloc (.cells #[.int .i64 a,.int .i64 b,.int .i64 c,.int .i64 m,.slice base n cap] 120)).alloc (.cells #[.int .i64 1] 30)).alloc (.cells #[.int .i64 a,.int .i64 b,.int .i64 c,.int .i64 m,.slice base n cap] 120)).alloc (.cells #[.slice bl kl cl] 27)):=((((Ext.rfl' w).alloc _).alloc _).alloc _).alloc _;have Ay:((((w.alloc (.cells #[.int .i64 a,.int .i64 b,.int .i64 c,.int .i64 m,.slice base n cap] 120)).alloc (.cells #[.int .i64 1] 30)).alloc (.cells #[.int .i64 a,.int .i64 b,.int .i64 c,.int .i64 m,.slice base n cap] 120)).alloc (.cells #[.slice bl kl cl] 27)).heap.size=w.heap.size+4:=by simp only[Z2]
 have h1:((((w.alloc (.cells #[.int .i64 a,.int .i64 b,.int .i64 c,.int .i64 m,.slice base n cap] 120)).alloc (.cells #[.int .i64 1] 30)).alloc (.cells #[.int .i64 a,.int .i64 b,.int .i64 c,.int .i64 m,.slice base n cap] 120)).alloc (.cells #[.slice bl kl cl] 27)).heap[w.heap.size+1]? =some (.cells #[.int .i64 1] 30):=by
  simp only[Z3,Z2];rw[if_neg (by omega),if_neg (by omega),if_pos trivial]
 have h2:((((w.alloc (.cells #[.int .i64 a,.int .i64 b,.int .i64 c,.int .i64 m,.slice base n cap] 120)).alloc (.cells #[.int .i64 1] 30)).alloc (.cells #[.int .i64 a,.int .i64 b,.int .i64 c,.int .i64 m,.slice base n cap] 120)).alloc (.cells #[.slice bl kl cl] 27)).heap[w.heap.size+1+1]? =some (.cells #[.int .i64 a,.int .i64 b,.int .i64 c,.int .i64 m,.slice base n cap] 120):=by
  simp only[Z3,Z2];rw[if_neg (by omega),if_pos trivial]
 have h3:((((w.alloc (.cells #[.int .i64 a,.int .i64 b,.int .i64 c,.int .i64 m,.slice base n cap] 120)).alloc (.cells #[.int .i64 1] 30)).alloc (.cells #[.int .i64 a,.int .i64 b,.int .i64 c,.int .i64 m,.slice base n cap] 120)).alloc (.cells #[.slice bl kl cl] 27)).heap[w.heap.size+1+1+1]? =some (.cells #[.slice bl kl cl] 27):=by
  simp only[Z3,Z2];rw[if_pos trivial]
 generalize ((((w.alloc (.cells #[.int .i64 a,.int .i64 b,.int .i64 c,.int .i64 m,.slice base n cap] 120)).alloc (.cells #[.int .i64 1] 30)).alloc (.cells #[.int .i64 a,.int .i64 b,.int .i64 c,.int .i64 m,.slice base n cap] 120)).alloc (.cells #[.slice bl kl cl] 27))=w1 at As Ay h1 h2 h3⊢;have Bi:∀(W w':World),Ext w1 W->BelowX w1.heap.size (w.heap.size+1) W w'->Ext w w':=fun W w' h h'=>h'.ext (As.trans h) (by omega) (by omega)
 refine wpIn_rangeFunc_ownH rfl (by omega) (gf:=142) (lb:= #[.pointer (some ⟨w.heap.size+1+1+1,0,none⟩),.pointer (some ⟨w.heap.size+1+1,0,none⟩)]) rfl trivial (fun args w=>by simp[go_sem])
  (encs:=Zdt) (Kp:=BelowX w1.heap.size (w.heap.size+1)) (S:=fun xs=>xs=apA a b c L l) (Sp:=fun pre=>pre<+:apA a b c L l) (N:=(apA a b c L l).length) (w0:=w1)
  (fun yl J Jx W hW W6 hJx hY h0=>Z4f a b c m base n cap L bl kl cl l (w.heap.size+1+1+1) (w.heap.size+1+1) w1.heap.size (w.heap.size+1) yl J Jx
    (fun pre x W1 hJ hp=>hY pre x W1 hJ (by have:=hp.length_le;simp at this;omega)) W (fun pre u u' hu e=>W6 pre u u' none hu (Z3I e) (fun r h=>by cases h)) hG A2 hn Ew Hn B1 Aq
    ((hW.block _ (by omega)).trans h2) ((hW.block _ (by omega)).trans h3) hW.size (by omega) (by omega) (by omega) (by omega)
    (fun w' hX=>by have e:=Bi W w' ⟨hW.size,hW.block,hW.tape,hW.os,hW.output⟩ hX;exact⟨hM.ext e,hS.ext e,hI.ext e⟩) h0)
  (fun h h'=>h.trans h')
  (fun W l o o' hl ho _ _=>⟨rfl,rfl,rfl,by simp,fun k hk _=>World.putObj_heap_other (by omega)⟩)
  (Below.refl _ _) (fun _=>rfl)
  (fun pre W=>W.heap[w.heap.size+1]? =some (.cells #[.int .i64 (sayF pre)] 30)/\(∀x∈pre,x.s≠2)/\Ext w W/\w1.heap.size<=W.heap.size)
  (fun cd pre W=>cd= .exit 0/\W.heap[w.heap.size+1]? =some (.cells #[.int .i64 2] 30)/\(∃x∈pre,x.s=2)/\Ext w W)
  ?hI ?hIx ⟨h1,by simp,As,Nat.le_refl _⟩
  (fun x a' W=>∃Bx,w1.heap.size<=Bx/\W.heap[Bx]? =some (.cells #[.int .i64 x.p,.int .i64 x.q,.int .i64 x.k,.int .i64 x.s] 46)/\a'={tmps:= #[.agg #[.int .i64 a,.int .i64 b,.int .i64 c,.int .i64 m,.slice base n cap],.slice bl kl cl,.pointer (some ⟨w.heap.size,0,none⟩),undef,.int .i64 0,.pointer (some ⟨w.heap.size+1,0,none⟩),.pointer (some ⟨Bx,0,none⟩),.agg #[.int .i64 a,.int .i64 b,.int .i64 c,.int .i64 m,.slice base n cap],.slice bl kl cl,.func (.func 142) #[] #[.pointer (some ⟨w.heap.size+1+1+1,0,none⟩),.pointer (some ⟨w.heap.size+1+1,0,none⟩)],.agg #[.int .i64 x.p,.int .i64 x.q,.int .i64 x.k,.int .i64 x.s],undef,undef,undef,undef,undef],defers:=[]})
  ?hAx ?assign ?body ?done ?stop
 case hI=>
  rintro pre W W' row ⟨g1,g2,g3,g4⟩ hg hr;refine⟨(hg.block _ (by omega) (fun e=>by have:=(hr _ e.symm).1;omega)).trans g1,g2,⟨Nat.le_trans g3.size hg.size,fun k hk=>(hg.block k (Nat.lt_of_lt_of_le hk g3.size) (fun e=>by have:=(hr _ e.symm).1;omega)).trans (g3.old k hk),hg.tape.trans g3.tape,hg.os.trans g3.os,hg.output.trans g3.output⟩,Nat.le_trans g4 hg.size⟩
 case hIx=>
  rintro cd pre W W' row ⟨g0,g1,g2,g3⟩ hg hr;refine⟨g0,(hg.block _ (Z5 g1) (fun e=>by have:=(hr _ e.symm).1;omega)).trans g1,g2,⟨Nat.le_trans g3.size hg.size,fun k hk=>(hg.block k (Nat.lt_of_lt_of_le hk g3.size) (fun e=>by have:=(hr _ e.symm).1;omega)).trans (g3.old k hk),hg.tape.trans g3.tape,hg.os.trans g3.os,hg.output.trans g3.output⟩⟩
 case hAx=>
  rintro x a' _ W W' row ⟨Bx,g1,g2,g3⟩ hg hr;refine⟨Bx,g1,(hg.block _ (Z5 g2) (fun e=>by obtain⟨_,o,ho,hc⟩:=hr _ e.symm;rw[g2] at ho;cases ho;cases hc)).trans g2,g3⟩
 case assign=>
  rintro yl pre x W K ⟨g1,g2,g3,g4⟩ hK;have hz:(Zdt x).size=1:=rfl;simp only[Zdt,List.zip_toArray,List.zip_cons_cons,List.zip_nil_left,List.zip_nil_right,List.foldl_toArray',List.foldl_cons,List.foldl_nil,List.size_toArray,List.length_cons,List.length_nil,List.setIfInBounds_toArray,List.set_cons_zero,List.set_cons_succ,Nat.reduceAdd]
  gi_wp2
  refine hK _ _ ((KeepsOthers.alloc _ _).from _) (Z15 ((Ext.rfl' W).alloc _) g4) ⟨((Ext.rfl' W).alloc _).get g1,g2,g3.trans ((Ext.rfl' W).alloc _),by simp only[Z2];omega⟩ ⟨W.heap.size,g4,by rw[Z3,if_pos rfl],rfl⟩
 case body=>
  rintro yl pre x a' W Ot ⟨r,hr⟩ ⟨g1,g2,g3,g4⟩ ⟨Bx,hBx,bX,rfl⟩ A3;have q3:=Z0 bX 3;have q0:=Z0 g1 0;have f0:=Z8 g1 0;simp only[List.getElem?_toArray,List.getElem?_cons_zero,List.getElem?_cons_succ] at q3 q0;obtain⟨xp,xq,xk,xs⟩:=x;simp only at q3 bX;have I2:∀v,(W.setCell ⟨w.heap.size+1,0,none⟩ v).heap[w.heap.size+1]? =some (.cells #[v] 30):=fun v=>Zb g1 v
  have Et:∀v k,k≠w.heap.size+1->(W.setCell ⟨w.heap.size+1,0,none⟩ v).heap[k]? =W.heap[k]? :=fun v k hk=>set_ne hk v
  have hA:=fun v=>Go.Conc.aside_setCell W ⟨w.heap.size+1,0,none⟩ v
  have hBX:∀v,BelowX w1.heap.size (w.heap.size+1) W (W.setCell ⟨w.heap.size+1,0,none⟩ v):=fun v=>
   ⟨(hA v).os,(hA v).tape,(hA v).output,by rw[(hA v).size];exact Nat.le_refl _,fun k _ hk=>Et v k hk⟩
  have hsv:∀v,Ext w (W.setCell ⟨w.heap.size+1,0,none⟩ v):=fun v=>g3.setCell _ _ (by simp)
  by_cases h:xs=2
  ·subst h
   gi_wp2
   exact⟨(KeepsOthers.setCell _ _ _).from _,rfl,I2 _,⟨_,List.mem_append_right _ (List.mem_singleton.2 rfl),rfl⟩,hsv _⟩
  ·have hd:decide (xs=2)=false:=by simp[h]
   gi_wp2
   refine⟨(KeepsOthers.setCell _ _ _).from _,by rw[<-Ay];exact hBX _,by rw[Zah];exact I2 _,?_,hsv _,by rw[<-Ay];exact Nat.le_trans g4 (hBX (.int .i64 xs)).size⟩;intro y hy;rcases List.mem_append.1 hy with hy|hy
   ·exact g2 y hy
   ·cases List.mem_singleton.1 hy;exact h
 case done=>
  rintro D xs W hD rfl ⟨g1,g2,g3,g4⟩ hK;have q0:=Z0 g1 0;simp only[List.getElem?_toArray,List.getElem?_cons_zero,List.getElem?_cons_succ] at q0
  gi_wp2
  refine⟨by simp,.inl ⟨_,_,rfl,run_takeDeferred hK,?_⟩⟩;have hv:sayF (apA a b c L l)=Zr (apA a b c L l):=sayF_match (fun x hx=>(Zen x hx).resolve_right (g2 x hx));rw[hv];exact⟨_,results_tmp rfl _ _ _,rfl,Zai g3 (by omega)⟩
 case stop=>
  rintro D cd pre W hD hp ⟨rfl,g1,g2,g3⟩ hK;have q0:=Z0 g1 0;simp only[List.getElem?_toArray,List.getElem?_cons_zero,List.getElem?_cons_succ] at q0
  gi_wp2
  refine⟨by simp,.inl ⟨_,_,rfl,run_takeDeferred hK,?_⟩⟩;obtain⟨x,hx,Bz⟩:=g2;have hv:Zr (apA a b c L l)=2:=by
   have:(apA a b c L l).any (fun x=>x.s==2)=true:=List.any_eq_true.2 ⟨x,hp.subset hx,by rw[Bz];rfl⟩;simp only[Zr,this,if_true]
  rw[hv];exact⟨_,results_tmp rfl _ _ _,rfl,Zai g3 (by omega)⟩
end Go.Proofs.Tryq
namespace Go.Proofs.Tryq
set_option maxRecDepth 100000
set_option maxHeartbeats 2000000
open Go Go.Nk Go.RowKit
attribute [local go_sem] Oper.semAt_some
theorem Z4g{x y:Int}(h:firstV [x,y]=0):x=0/\y=0:=by
 simp only[firstV] at h;split at h
 ·split at h
  ·exact⟨by assumption,by assumption⟩
  ·exact absurd h (by assumption)
 ·exact absurd h (by assumption)
theorem shA_ok:∀{L:List Sf}{seen:List (List UInt8)},shA seen L=0->∀x∈L,Z8b x=true
 |[],_,_,x,hx=>by cases hx
 |y::t,seen,h,x,hx=>by
  simp only[shA] at h;split at h
  ·exact absurd h (by decide)
  ·split at h
   ·exact absurd h (by decide)
   ·split at h
    ·exact absurd h (by decide)
    ·rename_i h3;rcases List.mem_cons.1 hx with rfl|hx
     ·simpa using h3
     ·exact shA_ok h x hx
theorem Z4h{a b c m:Int}{L:List Sf}(h:Zp a b c m L=0):Good a b c L/\L.length<=9/\2<=m/\m<=4:=by
 obtain⟨h1,h2⟩:=Z4g h;have hr:okA a 9999&&okA b 9999&&okA c 9999&&decide (2<=m/\m<=4):=by
  unfold Z2J at h1;split at h1
  ·assumption
  ·cases h1
 simp only[okA,Bool.and_eq_true,decide_eq_true_eq] at hr;unfold Zj at h2;split at h2
 ·cases h2
 ·exact⟨⟨hr.1.1.1,hr.1.1.2,hr.1.2,shA_ok h2⟩,by omega,hr.2.1,hr.2.2⟩
theorem Z8y(n:Nat)(o:Option Int)(x:Int)(t:List Int):Z1k n o (x::t)=if¬(0<=x/\x<=(n:Int) - 1) then 6 else if(match o with|some y=>decide (x<=y)|none=>false) then 7 else Z1k n (some x) t:=by
 cases o<;>rfl
theorem Z7F{n:Nat}:∀{l:List Int}{o:Option Int},Z1k n o l=0->∀p∈l,0<=p/\p<n
 |[],_,_,x,hx=>by cases hx
 |y::t,o,h,x,hx=>by
  rw[Z8y] at h;generalize (match o with|some z=>decide (y<=z)|none=>false)=bb at h;by_cases hr:¬(0<=y/\y<=(n:Int) - 1)
  ·rw[if_pos hr] at h;exact absurd h (by decide)
  ·rw[if_neg hr] at h;cases bb with
   |true=>rw[if_pos rfl] at h;exact absurd h (by decide)
   |false=>
    rcases List.mem_cons.1 hx with rfl|hx
    ·have:=Decidable.not_not.1 hr;omega
    ·exact Z7F (o:=some y) h x hx
theorem Z1n{a b c m:Int}{L:List Sf}{l:List Int}(h:Zo a b c m L l=0):Good a b c L/\(∀p∈l,0<=p/\p<L.length)/\L.length<=9/\2<=m/\m<=4:=by
 obtain⟨h1,h2⟩:=Z4g h;exact⟨(Z4h h1).1,Z7F h2,(Z4h h1).2⟩
def Z1M(a b c m:Int)(L:List Sf)(l:List Int):Int:=if Zo a b c m L l=0 then Zr (apA a b c L l) else 0
theorem Z5Y(a b c m:Int)(base:Option Addr)(n cap:Nat)(L:List Sf)(bl:Option Addr)(k cl:Nat)(l:List Int)(w:World)(A2:L.length=n)(hn:n<=20)(hk:l.length=k)(Hn:k<=cl)(B1:k<=100)(hM:Meas w)(hS:RawA w base L)(hl:RawI w bl l):
 Calls prog 23 #[.agg #[.int .i64 a,.int .i64 b,.int .i64 c,.int .i64 m,.slice base n cap],.slice bl k cl] w fun e w'=>e= .returned (.tuple #[.int .i64 (Z1M a b c m L l),.int .i64 (Zo a b c m L l)])/\Ext w w':=by
 have ho:=fun W hW=>Z3c a b c m base n cap L bl k cl l W A2 hn hk B1 (hM.ext hW) (hS.ext hW) (hl.ext hW)
 by_cases h:Zo a b c m L l=0
 ·obtain⟨hG,Aq,_⟩:=Z1n h;have hm:=fun W hW=>Z5X a b c m base n cap L bl k cl l W hG A2 hn hk Hn B1 (by rw[<-A2];exact Aq) (hM.ext hW) (hS.ext hW) (hl.ext hW)
  have hF:Z1M a b c m L l=Zr (apA a b c L l):=if_pos h;rw[h] at ho⊢;rw[hF];generalize Zr (apA a b c L l)=v at hm⊢;go_enter func23,ntmps23
  go_wp2_with (first
   |(go_at_call 86;refine(ho _ (by(repeat (with_reducible first|assumption|exact Ext.rfl' _|apply Ext.alloc|apply Ext.drew)))).mono ?_;rintro e w2 ⟨rfl,A7⟩
     have Av:Ext w w2:=Ext.trans (by(repeat (with_reducible first|assumption|exact Ext.rfl' _|apply Ext.alloc|apply Ext.drew))) A7)
   |(go_at_call 87;refine(hm _ (by(repeat (with_reducible first|assumption|exact Ext.rfl' _|apply Ext.alloc|apply Ext.drew)))).mono ?_;rintro e w3 ⟨rfl,An⟩))
  go_ret2;exact⟨rfl,Av.trans (Ext.trans ((Ext.rfl' _).alloc _) An)⟩
 ·have hF:Z1M a b c m L l=0:=if_neg h;have A8:(Zo a b c m L l !=0)=true:=by simpa using h
  rw[hF];generalize Zo a b c m L l=f at ho A8⊢;go_enter func23,ntmps23
  go_wp2_with (
   go_at_call 86;refine(ho _ (by(repeat (with_reducible first|assumption|exact Ext.rfl' _|apply Ext.alloc|apply Ext.drew)))).mono ?_;rintro e w2 ⟨rfl,A7⟩
   have Av:Ext w w2:=Ext.trans (by(repeat (with_reducible first|assumption|exact Ext.rfl' _|apply Ext.alloc|apply Ext.drew))) A7)
  go_ret2;exact⟨rfl,Av.alloc _⟩
end Go.Proofs.Tryq
namespace Go.Proofs.Tryq
set_option maxRecDepth 100000
set_option maxHeartbeats 1000000
open Go Go.Nk Go.RowKit
theorem u27:prog.underlying 27=some (.slice 3):=(underlying_eq 27).trans Tryz.underlying27
theorem i3:prog.info? 3=some Tryz.t3:=by kernel_rfl
theorem t3z:Tryz.t3.zero=some (.int .i64 0):=by kernel_rfl
theorem t3s:Tryz.t3.size=1:=by kernel_rfl
theorem t3b:Tryz.t3.bytes=8:=by kernel_rfl
def OwnI(b:Nat)(w:World)(v:Value)(l:List Int):Prop:=w.ownsRow b 3 1 v l.length (l.map (Value.int .i64))
theorem Z1N(w:World)(v:Value)(t:TypeId):∀(j:Nat)(u:Value),[v][j]? =some u->(w.alloc (.cells #[v] t)).cell? ((⟨w.heap.size,0,none⟩:Addr).add j)=some u:=by
 intro j u hu
 match j,hu with
 |0,hu=>
  obtain rfl:=Option.some.inj hu;rw[Z0c,Z0 (by rw[Z3,if_pos rfl])];rfl
 |j+1,hu=>simp at hu
theorem bl_all:(List.range 256).all (fun s=>s==0||(bl s==tz s::bl (s&&& (s - 1))&&decide ((s&&& (s - 1))<s)&&bits .and .i64 (s:Int) ((s:Int) - 1)==((s&&& (s - 1):Nat):Int)))=true:=by kernel_rfl
theorem Zdu{s:Nat}(hs:s<256)(h0:0<s):bl s=tz s::bl (s&&& (s - 1))/\(s&&& (s - 1))<s/\bits .and .i64 (s:Int) ((s:Int) - 1)=((s&&& (s - 1):Nat):Int):=by
 have:=List.all_eq_true.1 bl_all s (List.mem_range.2 hs);simp only[Bool.or_eq_true,Bool.and_eq_true,beq_iff_eq,decide_eq_true_eq] at this;rcases this with h|h
 ·omega
 ·exact⟨h.1.1,h.1.2,h.2⟩
theorem Zeo(s:Nat):(bl s).length<=8:=by
 have:=List.length_filter_le (fun i=>s.testBit i) (List.range 8);simpa[bl] using this
theorem ZbS(k:Nat)(hk:k<256)(w:World)(hg:Deb w):Calls prog 158 #[.int .i64 k] w fun e w'=>∃v,e= .returned v/\OwnI w.heap.size w' v ((bl k).map fun(i:Nat)=>(i:Int))/\Ext w w':=by
 go_enter func158,ntmps158;go_wp2;go_loopw [0,3] (fun v0 v3 wr=>∃s:Nat,s<256/\∃pre:List Nat,bl k=pre++bl s/\v0= .int .i64 s/\OwnI w.heap.size wr v3 (pre.map fun(i:Nat)=>(i:Int))/\Ext w wr) (fun v0 _ _=>(intOf v0).toNat)
 case atStart=>exact⟨k,hk,[],rfl,rfl,World.ownsRow_nil _ _ _ _,Ext.rfl' w⟩
 case round=>
  rename_i v3 _;obtain⟨s,hs,pre,Eu,rfl,Ak,hE⟩:=hrel;by_cases h0:s=0
  ·subst h0;have R2:bl k=pre:=by rw[Eu];simp[bl]
   clear Eu;subst R2;go_wp2;go_ret;exact⟨_,rfl,Ak,hE⟩
  ·obtain⟨s',h1,h2,h3⟩:∃s':Nat,bl s=tz s::bl s'/\s'<s/\bits .and .i64 (s:Int) ((s:Int) - 1)=(s':Int):=⟨_,Zdu hs (by omega)⟩;have A2:pre.length+1<=8:=by
    have:=Zeo k;rw[Eu,h1] at this;simp at this;omega
   have H3:Hid (bl s=tz s::bl s'):=h1;have Hp:Hid (bl k=pre++bl s):=Eu;clear h1 Eu;have Qn:(0:Int)<=(s:Int):=by omega
   have Ci:(s:Int)<256:=by omega
   have Cw:(0:Int)<=(s':Int):=by omega
   have A8:((s:Int) !=0)=true:=by simp;omega
   have htz:=fun w hg=>ZdZ s hs (by omega) w hg
   have hdw:=hg.ext hE
   go_wp2_with (first
    |(go_at_call 168;refine(htz _ hdw).mono ?_;rintro e wr ⟨rfl,rfl⟩)
    |(at_builtin
      refine wpList_append_own _ rfl _ _ _ rfl w.heap.size 3 Tryz.t3 (.int .i64 0) 1 8 u27 i3 t3z t3s t3b rfl (by omega) _ _ _ rfl (Ak.alloc _) ⟨wr.heap.size,0,none⟩ 1 1 [.int .i64 (tz s)] rfl rfl (Z1N _ _ _) (by intro u hu;simp at hu;subst hu;rfl) (by simp[maxLen];omega) (by simp;omega) (by have:=hE.size;simp;omega) ?_;intro v' w3 Ad Ab _;have Av:Ext w w3:=(hE.alloc _).grown Ab (fun k hk=>(Ak.lt k hk).1)))
   go_roundw
   case rel=>exact⟨s',by omega,pre++[tz s],by rw[Hp,H3];simp,rfl,by simpa[OwnI] using Ad,Av⟩
   case measure=>simp[intOf];omega
end Go.Proofs.Tryq
