/- nocklaw01.ArrowBest: for every card, any two distances and any mark the call returns true, on every schedule and without a data race; its arguments read afterwards as they read before; nothing that was in memory is changed; at the return no other goroutine does more than leave. The card ties the four listed package variables to the program's text. Conditions: none beyond the card's own (the listed variables hold what the program's text lays). The texts of this claim were shortened by program (no remarks, short names) to fit the bounds on a claim's size; their long form lies in the repository's folder wip. -/
import Derived.Test.YtedkbdkbbnemlaaGreatDoorNk27
import Derived.Test.YtedkbdkbbnemlaaGreatDoorNk29
import Derived.Carry
import Derived.JoinedOf
import Derived.KernelRfl
import Derived.Test.YtedkbdkbbnemlaaGreatDoorRows
set_option linter.all false
namespace Go.Proofs.Tryq
set_option maxRecDepth 100000
set_option maxHeartbeats 8000000
open Go Go.Nk Go.RowKit
theorem u68:prog.underlying 68=some (.slice 80):=(underlying_eq 68).trans Tryz.underlying68
theorem i80:prog.info? 80=some Tryz.t80:=by kernel_rfl
theorem t80z:Tryz.t80.zero=some (.agg #[.int .i64 0,.int .i64 0,.int .i64 0,.int .i64 0,.int .i64 0]):=by kernel_rfl
theorem t80s:Tryz.t80.size=5:=by kernel_rfl
theorem t80b:Tryz.t80.bytes=40:=by kernel_rfl
theorem ZaN{w:World}{b:Nat}{A:List Ap}{C:Array Value}(h:w.heap[b]? =some (.cells C 46))(hC:C.toList=A.flatMap apC):RawAp w (some ⟨b,0,none⟩) A:=by
 have key:∀(A:List Ap)(i j:Nat)(x:Ap),A[i]? =some x→j<4→(A.flatMap apC)[i*4+j]? =(apC x)[j]? :=by
  intro A
  induction A with
  |nil=>intro i j x h;simp at h
  |cons y A ih=>
   intro i j x hx hj
   rw[List.flatMap_cons]
   have hl:(apC y).length=4:=rfl
   cases i with
   |zero=>
    simp at hx
    subst hx
    rw[List.getElem?_append_left (by omega)]
    simp
   |succ i=>
    rw[List.getElem?_append_right (by omega),hl,show(i+1)*4+j - 4=i*4+j by omega]
    exact ih i j x (by simpa using hx) hj
 intro i x hx
 have hc:∀j,j<4→w.cell? ⟨b,0+i*4+j,none⟩=(apC x)[j]? :=by
  intro j hj
  rw[Z0 h,Nat.zero_add,←Array.getElem?_toList,hC,key A i j x hx hj]
 exact⟨b,0,rfl,Z5 h,hc 0 (by omega),hc 1 (by omega),hc 2 (by omega),hc 3 (by omega)⟩
theorem Zcc{w:World}{b:Nat}{x0 x1 x2 y0 y1 y2:Int}(h0:w.heap[b]? =some (.cells #[.int .i64 x0,.int .i64 x1,.int .i64 x2] 3))(h1:w.heap[b+1]? =some (.cells #[.int .i64 y0,.int .i64 y1,.int .i64 y2] 3))
 (h2:w.heap[b+1+1]? =some (.cells #[.slice (some ⟨b,0,none⟩) 3 3,.slice (some ⟨b+1,0,none⟩) 3 3] 27)):RawL w (some ⟨b+1+1,0,none⟩) [[x0,x1,x2],[y0,y1,y2]]:=by
 intro i l hl
 match i,hl with
 |0,hl=>
  obtain rfl:=Option.some.inj hl
  exact⟨b+1+1,0,_,3,rfl,Z5 h2,by rw[Z0 h2];rfl,by simp,Z0V h0 rfl⟩
 |1,hl=>
  obtain rfl:=Option.some.inj hl
  exact⟨b+1+1,0,_,3,rfl,Z5 h2,by rw[Z0 h2];rfl,by simp,Z0V h1 rfl⟩
theorem Zcd{w:World}{b base:Nat}(h:w.heap[b]? =some (.cells #[] 80))(hb:base≤b):w.ownsRow base 80 5 (.slice (some ⟨b,0,none⟩) 0 0) 0 []:=⟨rfl,.inr ⟨b,0,#[],rfl,hb,h,Nat.le_refl _,by simp[maxLen],rfl,rfl⟩⟩
theorem OwnAp.rawAp{b:Nat}{w:World}{v:Value}{A:List Ap}(h:OwnAp b w v A):∃ao cp,v= .slice ao A.length cp∧RawAp w ao A:=by
 by_cases h0:A=[]
 ·subst h0
  rcases h.2 with⟨rfl,_⟩|⟨g,cp,_,rfl,_⟩
  ·exact⟨none,0,rfl,fun i x hx=>by simp at hx⟩
  ·exact⟨_,cp,rfl,fun i x hx=>by simp at hx⟩
 ·have hp:0<A.length:=List.length_pos_iff.2 h0
  obtain⟨g,cp,rfl,_,hg⟩:=World.ownsRow.form h hp
  refine⟨_,cp,rfl,fun i x hx=> ?_⟩
  have key:∀(A:List Ap)(i j:Nat)(x:Ap),A[i]? =some x→j<4→(A.flatMap apC)[i*4+j]? =(apC x)[j]? :=by
   intro A
   induction A with
   |nil=>intro i j x h;simp at h
   |cons y A ih=>
    intro i j x hx hj
    rw[List.flatMap_cons]
    have hl:(apC y).length=4:=rfl
    cases i with
    |zero=>
     simp at hx
     subst hx
     rw[List.getElem?_append_left (by omega)]
     simp
    |succ i=>
     rw[List.getElem?_append_right (by omega),hl,show(i+1)*4+j - 4=i*4+j by omega]
     exact ih i j x (by simpa using hx) hj
  have hc:∀j u,j<4→(apC x)[j]? =some u→w.cell? ⟨g,0+i*4+j,none⟩=some u:=by
   intro j u hj hu
   have h2:=h.cells (g:=g) rfl (i*4+j) u (by rw[key A i j x hx hj];exact hu)
   rw[Z0c] at h2
   rw[Nat.zero_add]
   exact h2
  exact⟨g,0,rfl,hg,hc 0 _ (by omega) rfl,hc 1 _ (by omega) rfl,hc 2 _ (by omega) rfl,hc 3 _ (by omega) rfl⟩
theorem Zce(w:World)(hM:Meas w)(hmo:Most w)(hd:Deb w):Calls prog 22 #[] w fun e w'=>e= .returned (.bool true)∧Ext w w':=by
 go_enter func22,ntmps22
 go_wp2_with fail
 refine(Z6U _).mono ?_
 rintro e wA ⟨B,rfl,hBe,hEA⟩
 rename_i Q K hK
 refine hK _ _ ?_
 clear hK
 go_wp2_with fail
 refine(Zar _).mono ?_
 rintro e w0 ⟨D,rfl,hDe,hEB⟩
 have hEw:=hEA.trans hEB
 have hS0:=ZdF (hEB.get hBe)
 have hC0:RawS w0 (some ⟨D,0,none⟩) exS:=Z6Y hDe rfl
 have hM0:=hM.ext hEw;have hm0:=hmo.ext hEw;have hd0:=hd.ext hEw
 have hc0:=Ext.rfl' w0
 rename_i Q K hK
 refine hK _ _ ?_
 clear hK
 go_wp2_with fail
 refine(Z59 [0,1,2] 3 1 rfl (by decide) v_m1 B _ _ (hM0.ext ((((hc0.alloc _).alloc _).alloc _))) (hS0.ext ((((hc0.alloc _).alloc _).alloc _))) (Z0V (l:=[0,1,2]) (by simp only[Z3,Z2];exact if_pos trivial) rfl)).mono ?_
 rintro e w1 ⟨rfl,hE⟩
 have hs1:Ext w0 w1:=((((Ext.rfl' w0).alloc _).alloc _).alloc _).trans hE
 have gs1:w1.heap[w0.heap.size]? =some (.cells #[.int .i64 10,.int .i64 2,.int .i64 5,.int .i64 3,.slice (some ⟨B,0,none⟩) 7 7] 26):=hE.get (by simp only[Z3,Z2];rw[if_neg (by omega),if_neg (by omega),if_pos trivial])
 have gc1:w1.heap[w0.heap.size+1]? =some (.cells #[.int .i64 2,.int .i64 4,.int .i64 1,.int .i64 2,.slice (some ⟨D,0,none⟩) 3 3] 70):=hE.get (by simp only[Z3,Z2];rw[if_neg (by omega),if_pos trivial])
 have hc1:=hc0.trans hs1
 clear hE
 have hlt1:=Z5 gc1;have hlu1:=Z5 gs1
 have q0:=Z0 gs1 0;have q1:=Z0 gs1 1;have q2:=Z0 gs1 2;have q3:=Z0 gs1 3;have q4:=Z0 gs1 4
 have r0:=Z0 gc1 0;have r1:=Z0 gc1 1;have r2:=Z0 gc1 2;have r3:=Z0 gc1 3;have r4:=Z0 gc1 4
 simp only[List.getElem?_toArray,List.getElem?_cons_zero,List.getElem?_cons_succ] at q0 r0 q1 r1 q2 r2 q3 r3 q4 r4
 rename_i Q K hK
 refine hK _ _ ?_
 clear hK
 go_wp2_with fail
 refine(Z59 [0,3] 2 0 rfl (by decide) v_m2 B _ _ (hM0.ext ((hc1.alloc _))) (hS0.ext ((hc1.alloc _))) (Z0V (l:=[0,3]) (by simp only[Z3,Z2];exact if_pos trivial) rfl)).mono ?_
 rintro e w2 ⟨rfl,hE⟩
 have hs2:Ext w1 w2:=((Ext.rfl' w1).alloc _).trans hE
 have gs2:=hs2.get gs1;have gc2:=hs2.get gc1
 have hc2:=hc1.trans hs2
 clear hE
 have hlt2:=Z5 gc2;have hlu2:=Z5 gs2
 clear hlt1 hlu1
 clear q0 r0 q1 r1 q2 r2 q3 r3 q4 r4
 have q0:=Z0 gs2 0;have q1:=Z0 gs2 1;have q2:=Z0 gs2 2;have q3:=Z0 gs2 3;have q4:=Z0 gs2 4
 have r0:=Z0 gc2 0;have r1:=Z0 gc2 1;have r2:=Z0 gc2 2;have r3:=Z0 gc2 3;have r4:=Z0 gc2 4
 simp only[List.getElem?_toArray,List.getElem?_cons_zero,List.getElem?_cons_succ] at q0 r0 q1 r1 q2 r2 q3 r3 q4 r4
 rename_i Q K hK
 refine hK _ _ ?_
 clear hK
 go_wp2_with fail
 refine(Z59 [0,6] 2 2 rfl (by decide) v_m3 B _ _ (hM0.ext ((hc2.alloc _))) (hS0.ext ((hc2.alloc _))) (Z0V (l:=[0,6]) (by simp only[Z3,Z2];exact if_pos trivial) rfl)).mono ?_
 rintro e w3 ⟨rfl,hE⟩
 have hs3:Ext w2 w3:=((Ext.rfl' w2).alloc _).trans hE
 have gs3:=hs3.get gs2;have gc3:=hs3.get gc2
 have hc3:=hc2.trans hs3
 clear hE
 have hlt3:=Z5 gc3;have hlu3:=Z5 gs3
 clear hlt2 hlu2
 clear q0 r0 q1 r1 q2 r2 q3 r3 q4 r4
 have q0:=Z0 gs3 0;have q1:=Z0 gs3 1;have q2:=Z0 gs3 2;have q3:=Z0 gs3 3;have q4:=Z0 gs3 4
 have r0:=Z0 gc3 0;have r1:=Z0 gc3 1;have r2:=Z0 gc3 2;have r3:=Z0 gc3 3;have r4:=Z0 gc3 4
 simp only[List.getElem?_toArray,List.getElem?_cons_zero,List.getElem?_cons_succ] at q0 r0 q1 r1 q2 r2 q3 r3 q4 r4
 rename_i Q K hK
 refine hK _ _ ?_
 clear hK
 go_wp2_with fail
 refine(Zc9 B _ _ (hM0.ext ((hc3.alloc _))) (hS0.ext ((hc3.alloc _))) (Z0V (l:=[0,2,3]) (by simp only[Z3,Z2];exact if_pos trivial) rfl)).mono ?_
 rintro e w4 ⟨v9,rfl,hv9,hE⟩
 have hs4:Ext w3 w4:=((Ext.rfl' w3).alloc _).trans hE
 have gs4:=hs4.get gs3;have gc4:=hs4.get gc3
 have hc4:=hc3.trans hs4
 obtain⟨a9,c9,rfl,hr9⟩:=hv9.rawAp
 rw[v_ap.2.2]
 clear hE
 have hlt4:=Z5 gc4;have hlu4:=Z5 gs4
 clear hlt3 hlu3
 clear q0 r0 q1 r1 q2 r2 q3 r3 q4 r4
 have q0:=Z0 gs4 0;have q1:=Z0 gs4 1;have q2:=Z0 gs4 2;have q3:=Z0 gs4 3;have q4:=Z0 gs4 4
 have r0:=Z0 gc4 0;have r1:=Z0 gc4 1;have r2:=Z0 gc4 2;have r3:=Z0 gc4 3;have r4:=Z0 gc4 4
 simp only[List.getElem?_toArray,List.getElem?_cons_zero,List.getElem?_cons_succ] at q0 r0 q1 r1 q2 r2 q3 r3 q4 r4
 rename_i Q K hK
 refine hK _ _ ?_
 clear hK
 go_wp2_with fail
 refine(ZdC B _ (hM0.ext hc4) (hS0.ext hc4)).mono ?_
 rintro e w5 ⟨v11,v12,rfl,hv11,hv12,hE⟩
 have hs5:Ext w4 w5:=hE
 have gs5:=hs5.get gs4;have gc5:=hs5.get gc4
 have hc5:=hc4.trans hs5
 obtain⟨a11,c11,rfl,hr11⟩:=hv11.rawL (by decide)
 obtain⟨a12,c12,rfl,hr12,hx12⟩:=hv12.rawI
 clear hx12
 clear hE
 have hlt5:=Z5 gc5;have hlu5:=Z5 gs5
 clear hlt4 hlu4
 clear q0 r0 q1 r1 q2 r2 q3 r3 q4 r4
 have q0:=Z0 gs5 0;have q1:=Z0 gs5 1;have q2:=Z0 gs5 2;have q3:=Z0 gs5 3;have q4:=Z0 gs5 4
 have r0:=Z0 gc5 0;have r1:=Z0 gc5 1;have r2:=Z0 gc5 2;have r3:=Z0 gc5 3;have r4:=Z0 gc5 4
 simp only[List.getElem?_toArray,List.getElem?_cons_zero,List.getElem?_cons_succ] at q0 r0 q1 r1 q2 r2 q3 r3 q4 r4
 rename_i Q K hK
 refine hK _ _ ?_
 clear hK
 go_wp2_with fail
 refine(Z8I B _ (hM0.ext hc5) (hS0.ext hc5)).mono ?_
 rintro e w6 ⟨rfl,hE⟩
 have hs6:Ext w5 w6:=hE
 have gs6:=hs6.get gs5;have gc6:=hs6.get gc5
 have hc6:=hc5.trans hs6
 clear hE
 have hlt6:=Z5 gc6;have hlu6:=Z5 gs6
 clear hlt5 hlu5
 clear q0 r0 q1 r1 q2 r2 q3 r3 q4 r4
 have q0:=Z0 gs6 0;have q1:=Z0 gs6 1;have q2:=Z0 gs6 2;have q3:=Z0 gs6 3;have q4:=Z0 gs6 4
 have r0:=Z0 gc6 0;have r1:=Z0 gc6 1;have r2:=Z0 gc6 2;have r3:=Z0 gc6 3;have r4:=Z0 gc6 4
 simp only[List.getElem?_toArray,List.getElem?_cons_zero,List.getElem?_cons_succ] at q0 r0 q1 r1 q2 r2 q3 r3 q4 r4
 rename_i Q K hK
 refine hK _ _ ?_
 clear hK
 go_wp2_with fail
 refine(ZdD D _ (hC0.ext hc6)).mono ?_
 rintro e w7 ⟨rfl,hE⟩
 have hs7:Ext w6 w7:=hE
 have gs7:=hs7.get gs6;have gc7:=hs7.get gc6
 have hc7:=hc6.trans hs7
 clear hE
 have hlt7:=Z5 gc7;have hlu7:=Z5 gs7
 clear hlt6 hlu6
 clear q0 r0 q1 r1 q2 r2 q3 r3 q4 r4
 have q0:=Z0 gs7 0;have q1:=Z0 gs7 1;have q2:=Z0 gs7 2;have q3:=Z0 gs7 3;have q4:=Z0 gs7 4
 have r0:=Z0 gc7 0;have r1:=Z0 gc7 1;have r2:=Z0 gc7 2;have r3:=Z0 gc7 3;have r4:=Z0 gc7 4
 simp only[List.getElem?_toArray,List.getElem?_cons_zero,List.getElem?_cons_succ] at q0 r0 q1 r1 q2 r2 q3 r3 q4 r4
 rename_i Q K hK
 refine hK _ _ ?_
 clear hK
 go_wp2_with fail
 refine(ZaK 30 93 100 rfl v_mk1 D _ (hC0.ext ((hc7.alloc _))) (hm0.ext ((hc7.alloc _)))).mono ?_
 rintro e w8 ⟨rfl,hE⟩
 have hs8:Ext w7 w8:=((Ext.rfl' w7).alloc _).trans hE
 have gs8:=hs8.get gs7;have gc8:=hs8.get gc7
 have hc8:=hc7.trans hs8
 have gp8:w8.heap[w7.heap.size]? =some (.cells #[.int .i64 93,.int .i64 102] 48):=hE.get (by simp only[Z3,Z2];exact if_pos trivial)
 clear hE
 have hlt8:=Z5 gc8;have hlu8:=Z5 gs8
 clear hlt7 hlu7
 clear q0 r0 q1 r1 q2 r2 q3 r3 q4 r4
 have q0:=Z0 gs8 0;have q1:=Z0 gs8 1;have q2:=Z0 gs8 2;have q3:=Z0 gs8 3;have q4:=Z0 gs8 4
 have r0:=Z0 gc8 0;have r1:=Z0 gc8 1;have r2:=Z0 gc8 2;have r3:=Z0 gc8 3;have r4:=Z0 gc8 4
 simp only[List.getElem?_toArray,List.getElem?_cons_zero,List.getElem?_cons_succ] at q0 r0 q1 r1 q2 r2 q3 r3 q4 r4
 rename_i Q K hK
 refine hK _ _ ?_
 clear hK
 go_wp2_with fail
 refine(ZaK 25 73 80 rfl v_mk2 D _ (hC0.ext ((hc8.alloc _))) (hm0.ext ((hc8.alloc _)))).mono ?_
 rintro e w9 ⟨rfl,hE⟩
 have hs9:Ext w8 w9:=((Ext.rfl' w8).alloc _).trans hE
 have gs9:=hs9.get gs8;have gc9:=hs9.get gc8
 have hc9:=hc8.trans hs9
 have gp9:w9.heap[w8.heap.size]? =some (.cells #[.int .i64 93,.int .i64 100] 48):=hE.get (by simp only[Z3,Z2];exact if_pos trivial)
 clear hE
 have hlt9:=Z5 gc9;have hlu9:=Z5 gs9
 clear hlt8 hlu8
 clear q0 r0 q1 r1 q2 r2 q3 r3 q4 r4
 have q0:=Z0 gs9 0;have q1:=Z0 gs9 1;have q2:=Z0 gs9 2;have q3:=Z0 gs9 3;have q4:=Z0 gs9 4
 have r0:=Z0 gc9 0;have r1:=Z0 gc9 1;have r2:=Z0 gc9 2;have r3:=Z0 gc9 3;have r4:=Z0 gc9 4
 simp only[List.getElem?_toArray,List.getElem?_cons_zero,List.getElem?_cons_succ] at q0 r0 q1 r1 q2 r2 q3 r3 q4 r4
 rename_i Q K hK
 refine hK _ _ ?_
 clear hK
 go_wp2_with fail
 refine(ZaL 4 1 rfl v_h1 D _ (hC0.ext ((hc9.alloc _))) (hm0.ext ((hc9.alloc _)))).mono ?_
 rintro e w10 ⟨rfl,hE⟩
 have hs10:Ext w9 w10:=((Ext.rfl' w9).alloc _).trans hE
 have gs10:=hs10.get gs9;have gc10:=hs10.get gc9
 have hc10:=hc9.trans hs10
 have gp10:w10.heap[w9.heap.size]? =some (.cells #[.int .i64 73,.int .i64 80] 48):=hE.get (by simp only[Z3,Z2];exact if_pos trivial)
 clear hE
 have hlt10:=Z5 gc10;have hlu10:=Z5 gs10
 clear hlt9 hlu9
 clear q0 r0 q1 r1 q2 r2 q3 r3 q4 r4
 have q0:=Z0 gs10 0;have q1:=Z0 gs10 1;have q2:=Z0 gs10 2;have q3:=Z0 gs10 3;have q4:=Z0 gs10 4
 have r0:=Z0 gc10 0;have r1:=Z0 gc10 1;have r2:=Z0 gc10 2;have r3:=Z0 gc10 3;have r4:=Z0 gc10 4
 simp only[List.getElem?_toArray,List.getElem?_cons_zero,List.getElem?_cons_succ] at q0 r0 q1 r1 q2 r2 q3 r3 q4 r4
 rename_i Q K hK
 refine hK _ _ ?_
 clear hK
 go_wp2_with fail
 refine(ZaL 3 0 rfl v_h2 D _ (hC0.ext hc10) (hm0.ext hc10)).mono ?_
 rintro e w11 ⟨rfl,hE⟩
 have hs11:Ext w10 w11:=hE
 have gs11:=hs11.get gs10;have gc11:=hs11.get gc10
 have hc11:=hc10.trans hs11
 clear hE
 have hlt11:=Z5 gc11;have hlu11:=Z5 gs11
 clear hlt10 hlu10
 clear q0 r0 q1 r1 q2 r2 q3 r3 q4 r4
 have q0:=Z0 gs11 0;have q1:=Z0 gs11 1;have q2:=Z0 gs11 2;have q3:=Z0 gs11 3;have q4:=Z0 gs11 4
 have r0:=Z0 gc11 0;have r1:=Z0 gc11 1;have r2:=Z0 gc11 2;have r3:=Z0 gc11 3;have r4:=Z0 gc11 4
 simp only[List.getElem?_toArray,List.getElem?_cons_zero,List.getElem?_cons_succ] at q0 r0 q1 r1 q2 r2 q3 r3 q4 r4
 rename_i Q K hK
 refine hK _ _ ?_
 clear hK
 go_wp2_with fail
 refine(ZdE D _ (hC0.ext hc11) (hm0.ext hc11)).mono ?_
 rintro e w12 ⟨rfl,hE⟩
 have hs12:Ext w11 w12:=hE
 have gs12:=hs12.get gs11;have gc12:=hs12.get gc11
 have hc12:=hc11.trans hs12
 clear hE
 have hlt12:=Z5 gc12;have hlu12:=Z5 gs12
 clear hlt11 hlu11
 clear q0 r0 q1 r1 q2 r2 q3 r3 q4 r4
 have q0:=Z0 gs12 0;have q1:=Z0 gs12 1;have q2:=Z0 gs12 2;have q3:=Z0 gs12 3;have q4:=Z0 gs12 4
 have r0:=Z0 gc12 0;have r1:=Z0 gc12 1;have r2:=Z0 gc12 2;have r3:=Z0 gc12 3;have r4:=Z0 gc12 4
 simp only[List.getElem?_toArray,List.getElem?_cons_zero,List.getElem?_cons_succ] at q0 r0 q1 r1 q2 r2 q3 r3 q4 r4
 rename_i Q K hK
 refine hK _ _ ?_
 clear hK
 go_wp2_with fail
 refine(ZaM D _ (hC0.ext hc12) (hm0.ext hc12)).mono ?_
 rintro e w13 ⟨rfl,hE⟩
 have hs13:Ext w12 w13:=hE
 have gs13:=hs13.get gs12;have gc13:=hs13.get gc12
 have hc13:=hc12.trans hs13
 clear hE
 have hlt13:=Z5 gc13;have hlu13:=Z5 gs13
 clear hlt12 hlu12
 clear q0 r0 q1 r1 q2 r2 q3 r3 q4 r4
 have q0:=Z0 gs13 0;have q1:=Z0 gs13 1;have q2:=Z0 gs13 2;have q3:=Z0 gs13 3;have q4:=Z0 gs13 4
 have r0:=Z0 gc13 0;have r1:=Z0 gc13 1;have r2:=Z0 gc13 2;have r3:=Z0 gc13 3;have r4:=Z0 gc13 4
 simp only[List.getElem?_toArray,List.getElem?_cons_zero,List.getElem?_cons_succ] at q0 r0 q1 r1 q2 r2 q3 r3 q4 r4
 rename_i Q K hK
 refine hK _ _ ?_
 clear hK
 have hsz13:=hc13.size
 have hDW:∀W,Ext w13 W→∀(j:Nat) u,(exS.flatMap rsC)[j]? =some u→W.cell? ((⟨D,0,none⟩:Addr).add j)=some u:=by
  intro W hW j u hu
  rw[Z0c,Z0 (hW.get (hc13.get hDe)),←Array.getElem?_toList]
  exact hu
 go_wp2_with (
  at_builtin
  go_loud (refine wpList_append_own _ rfl _ _ _ rfl (w13.heap.size+1+1) 80 Tryz.t80 (.agg #[.int .i64 0,.int .i64 0,.int .i64 0,.int .i64 0,.int .i64 0]) 5 40 u68 i80 t80z t80s t80b rfl (by omega) (.slice (some ⟨w13.heap.size+1+1,0,none⟩) 0 0) 0 [] rfl (Zcd (by simp only[Z3,Z2];exact if_pos trivial) (Nat.le_refl _)) ⟨D,0,none⟩ 3 3 (exS.flatMap rsC) rfl rfl (hDW _ ((((Ext.rfl' w13).alloc _).alloc _).alloc _)) (by decide) (by simp[maxLen]) (by omega) (by simp only[Z2];omega) ?_)
  intro v' w14 hown14 hgrow14 _
  obtain⟨g14,cp14,rfl,hg14,hg14'⟩:=World.ownsRow.form hown14 (by omega)
  have hE14:Ext w13 w14:=Ext.grown ((((Ext.rfl' w13).alloc _).alloc _).alloc _) hgrow14 (fun k hk=>by simp[Value.ownBlock] at hk<;>omega)
  have gp14:w14.heap[w13.heap.size]? =some (.cells #[.int .i64 38,.int .i64 48] 48):=Z0m hgrow14 (fun e=>by simp[Value.ownBlock] at e<;>omega) (by simp only[Z3,Z2];rw[if_neg (by omega),if_neg (by omega),if_pos trivial])
  have gk14:w14.heap[w13.heap.size+1]? =some (.cells #[.int .i64 2,.int .i64 4,.int .i64 1,.int .i64 2,.slice (some ⟨D,0,none⟩) 3 3] 70):=Z0m hgrow14 (fun e=>by simp[Value.ownBlock] at e<;>omega) (by simp only[Z3,Z2];rw[if_neg (by omega),if_pos trivial])
  clear hgrow14)
 refine(Z3P _ _ _).mono ?_
 rintro e w15 ⟨rfl,hs15⟩
 have hE15:=hE14.trans hs15
 have gp15:=hs15.get gp14;have gk15:=hs15.get gk14
 have hown15:=Z00 hown14 hs15
 rename_i Q K hK
 refine hK _ _ ?_
 clear hK
 go_wp2_with (
  at_builtin
  go_loud (refine wpList_append_own _ rfl _ _ _ rfl (w13.heap.size+1+1) 80 Tryz.t80 (.agg #[.int .i64 0,.int .i64 0,.int .i64 0,.int .i64 0,.int .i64 0]) 5 40 u68 i80 t80z t80s t80b rfl (by omega) (.slice (some ⟨g14,0,none⟩) 3 cp14) 3 (exS.flatMap rsC) rfl (hown15.alloc _) ⟨w15.heap.size,0,none⟩ 1 1 (rsC ⟨20,70,70,0,0⟩) rfl rfl ?_ (by decide) (by simp[maxLen]) (by omega) (by simp only[Z2];have:=hs15.size;omega) ?_)
  ·intro j u hu
   rw[Z0c,Z0 (by rw[Z3,if_pos rfl]),←Array.getElem?_toList]
   exact hu
  intro v' w16 hown16 hgrow16 _
  obtain⟨g16,c16,cur,rfl,hg16,hh16,ht16⟩:∃g c cur,v'= .slice (some ⟨g,0,none⟩) (3+1) c∧w13.heap.size+1+1≤g∧w16.heap[g]? =some (.cells cur 80)∧cur.toList.take ((3+1)*5)=exS.flatMap rsC++rsC ⟨20,70,70,0,0⟩:=by
   obtain⟨_,⟨_,h⟩|⟨g,c,cur,h1,h2,h3,_,_,_,h4⟩⟩:=hown16
   ·omega
   ·exact⟨g,c,cur,h1,h2,h3,h4⟩
  have hE16:Ext w13 w16:=Ext.grown (hE15.alloc _) hgrow16 (fun k hk=>by simp[Value.ownBlock] at hk<;>omega)
  have gp16:w16.heap[w13.heap.size]? =some (.cells #[.int .i64 38,.int .i64 48] 48):=Z0m hgrow16 (fun e=>by simp[Value.ownBlock] at e<;>omega) (((Ext.rfl' w15).alloc _).get gp15)
  have gk16:w16.heap[w13.heap.size+1]? =some (.cells #[.int .i64 2,.int .i64 4,.int .i64 1,.int .i64 2,.slice (some ⟨D,0,none⟩) 3 3] 70):=Z0m hgrow16 (fun e=>by simp[Value.ownBlock] at e<;>omega) (((Ext.rfl' w15).alloc _).get gk15)
  clear hgrow16
  have y0:=Z0 gk16 0;have y1:=Z0 gk16 1;have y2:=Z0 gk16 2;have y3:=Z0 gk16 3;have y4:=Z0 gk16 4
  have z4:=Z8 gk16 4
  have hlt16:=Z5 gk16
  simp only[List.getElem?_toArray,List.getElem?_cons_zero,List.getElem?_cons_succ] at y0 y1 y2 y3 y4)
 have hEs:=hE16.setCell ⟨w13.heap.size+1,4,none⟩ (.slice (some ⟨g16,0,none⟩) 4 c16) (by simp only;omega)
 have hgs:(w16.setCell ⟨w13.heap.size+1,4,none⟩ (.slice (some ⟨g16,0,none⟩) 4 c16)).heap[g16]? =some (.cells cur 80):=(set_ne (by simp only;omega) _).trans hh16
 have gks:=Zb gk16 (i:=4) (.slice (some ⟨g16,0,none⟩) 4 c16)
 have gps:(w16.setCell ⟨w13.heap.size+1,4,none⟩ (.slice (some ⟨g16,0,none⟩) 4 c16)).heap[w13.heap.size]? =some (.cells #[.int .i64 38,.int .i64 48] 48):=(set_ne (by simp only;omega) _).trans gp16
 replace gks:(w16.setCell ⟨w13.heap.size+1,4,none⟩ (.slice (some ⟨g16,0,none⟩) 4 c16)).heap[w13.heap.size+1]? =some (.cells #[.int .i64 2,.int .i64 4,.int .i64 1,.int .i64 2,.slice (some ⟨g16,0,none⟩) 4 c16] 70):=gks
 generalize (w16.setCell ⟨w13.heap.size+1,4,none⟩ (.slice (some ⟨g16,0,none⟩) 4 c16))=ws at hEs hgs gks gps⊢
 have hcs:=hc13.trans hEs
 refine(Zca g16 c16 ws (Z6Y (L:=exS4) hgs (ht16.trans (by rfl))) (hm0.ext hcs) (hd0.ext hcs)).mono ?_
 rintro e w17 ⟨v33,rfl,hv33,hs17⟩
 obtain⟨a33,c33,rfl,hr33,hx33⟩:=hv33.rawI
 have gk17:=hs17.get gks
 have gp17:=hs17.get gps
 have hg17:=hs17.get hgs
 have hc17:=hcs.trans hs17
 clear hx33 y0 y1 y2 y3 y4 z4
 have y0:=Z0 gk17 0;have y1:=Z0 gk17 1;have y2:=Z0 gk17 2;have y3:=Z0 gk17 3;have y4:=Z0 gk17 4
 simp only[List.getElem?_toArray,List.getElem?_cons_zero,List.getElem?_cons_succ] at y0 y1 y2 y3 y4
 rename_i Q K hK
 refine hK _ _ ?_
 clear hK
 go_wp2_with fail
 refine(Zcb g16 c16 w17 (Z6Y (L:=exS4) hg17 (ht16.trans (by rfl))) (hm0.ext hc17) (hd0.ext hc17)).mono ?_
 rintro e w18 ⟨v35,rfl,hv35,hs18⟩
 obtain⟨a35,c35,rfl,hr35,hx35⟩:=hv35.rawI
 have hr33z:=hr33.ext hs18
 have hE18:=hEs.trans (hs17.trans hs18)
 have hE12:=hs13.trans hE18;have hE11:=hs12.trans hE12;have hE10:=hs11.trans hE11;have hE9:=hs10.trans hE10;have hE8:=hs9.trans hE9;have hE7:=hs8.trans hE8;have hE6:=hs7.trans hE7;have hE5:=hs6.trans hE6;have hE4:=hs5.trans hE5
 have hr9z:=hr9.ext hE4;have hr11z:=hr11.ext hE5;have hr12z:=hr12.ext hE5
 have gp8z:=hE8.get gp8;have gp9z:=hE9.get gp9;have gp10z:=hE10.get gp10;have gp18z:=hs18.get gp17
 have hcz:=hc17.trans hs18
 clear hx35 y0 y1 y2 y3 y4 q0 q1 q2 q3 q4 r0 r1 r2 r3 r4 hE4 hE5 hE6 hE7 hE8 hE9 hE10 hE11 hE12 hs1 hs2 hs3 hs4 hs5 hs6 hs7 hs8 hs9 hs10 hs11 hs12 hs13 hc1 hc2 hc3 hc4 hc5 hc6 hc7 hc8 hc9 hc10 hc11 hc12
 rename_i Q K hK
 refine hK _ _ ?_
 clear hK
 go_wp2_with fail
 refine(Z25 a9 3 c9 (Z0Q 10 2 5 3 exL [0,2,3]) _ 3 3 exA _ v_ap.2.2 rfl (by decide) (hr9z.ext ((Ext.rfl' w18).alloc _)) (ZaN (by simp only[Z3,Z2];exact if_pos trivial) rfl)).mono ?_
 rintro e w19 ⟨rfl,hE⟩
 have hs19:=((Ext.rfl' w18).alloc _).trans hE
 rw[v_ap.1]
 clear hE
 rename_i Q K hK
 refine hK _ _ ?_
 clear hK
 go_wp2_with fail
 refine(Z55 a11 2 c11 [[0,1,2],[3,4,5]] _ 2 2 [[0,1,2],[3,4,5]] _ rfl rfl (by decide) (hr11z.ext (((hs19.alloc _).alloc _).alloc _)) (Zcc (b:=w19.heap.size) (by simp only[Z3,Z2];rw[if_neg (by omega),if_neg (by omega),if_pos trivial]) (by simp only[Z3,Z2];rw[if_neg (by omega),if_pos trivial]) (by simp only[Z3,Z2];exact if_pos trivial))).mono ?_
 rintro e w20 ⟨rfl,hE⟩
 have hs20:=hs19.trans (((((Ext.rfl' w19).alloc _).alloc _).alloc _).trans hE)
 rw[show decide (([[0,1,2],[3,4,5]]:List (List Int))=[[0,1,2],[3,4,5]])=true from by decide]
 clear hE
 rename_i Q K hK
 refine hK _ _ ?_
 clear hK
 go_wp2_with fail
 refine(Z1d a12 1 c12 [6] _ 1 1 [6] _ rfl rfl (by decide) (hr12z.ext (hs20.alloc _)) (Z0V (by simp only[Z3,Z2];exact if_pos trivial) rfl)).mono ?_
 rintro e w21 ⟨rfl,hE⟩
 have hs21:=hs20.trans (((Ext.rfl' w20).alloc _).trans hE)
 rw[show decide (([6]:List Int)=[6])=true from by decide]
 clear hE
 rename_i Q K hK
 refine hK _ _ ?_
 clear hK
 go_wp2_with fail
 obtain⟨w1,hw1⟩:∃w1:World,w1=w21:=⟨_,rfl⟩
 have gp8w:=hs21.get gp8z;have gp9w:=hs21.get gp9z;have gp10w:=hs21.get gp10z;have gp18w:=hs21.get gp18z
 have hr33w:=hr33z.ext hs21;have hr35w:=hr35.ext hs21
 have hcw:=hcz.trans hs21
 rw[←hw1] at gp8w gp9w gp10w gp18w hr33w hr35w hcw⊢
 clear hw1
 refine Z03 (by kernel_rfl) (by kernel_rfl) (RI 274 [some 226,some 227,some 228,some 229,some 230,some 231,some 232,some 233,some 234,some 235,some 236,some 237,some 238,some 239,some 240,some 241,some 242,some 243,some 244,some 245,some 246,some 247,some 248,some 249,some 250,some 251,some 252,some 253,some 254,some 255,some 256,some 257,some 258,some 259,some 260,some 261,some 262,some 263,some 264,some 265,some 266,some 267,some 268,some 269,some 270,some 271,some 272,some 273,some 0] [some (.agg #[.int .i64 93,.int .i64 102]),some (.agg #[.int .i64 93,.int .i64 102]),some (.bool true),some (.bool true),some (.agg #[.int .i64 93,.int .i64 100]),some (.agg #[.int .i64 93,.int .i64 100]),some (.bool true),some (.bool true),some (.bool true),some (.agg #[.int .i64 73,.int .i64 80]),some (.agg #[.int .i64 73,.int .i64 80]),some (.bool true),some (.bool true),some (.bool true),some (.int .i64 1),some (.bool true),some (.bool true),some (.bool true),some (.int .i64 0),some (.bool true),some (.bool true),some (.bool true),some (.int .i64 76),some (.bool true),some (.bool true),some (.bool true),some (.int .i64 4),some (.bool true),some (.bool true),some (.bool true),some (.int .i64 14),some (.bool true),some (.bool true),some (.bool true),some (.agg #[.int .i64 38,.int .i64 48]),some (.agg #[.int .i64 38,.int .i64 48]),some (.bool true),some (.bool true),some (.bool true),some (.slice a33 2 c33),none,some (.bool true),some (.bool true),some (.bool true),some (.slice a35 3 c35),none,some (.bool true),some (.bool true),some (.bool true)] _ (Sxs w1 [⟨40,266,2,#[.int .i64 1,.int .i64 3],3⟩,⟨45,271,3,#[.int .i64 0,.int .i64 1,.int .i64 2],3⟩])) (RI.start rfl rfl (Sxs.start w1 _ _)) (AllIx.arr ⟨?_,?_,?_,?_,?_,?_,?_,?_,?_,?_,?_,?_,?_,?_,?_,?_,?_,?_,?_,?_,?_,?_,?_,?_,?_,?_,?_,?_,?_,?_,?_,?_,?_,?_,?_,?_,?_,?_,?_,?_,?_,?_,?_,?_,?_,?_,?_,?_,?_,trivial⟩) ?_
 ·intro ℓ aq W hl hp h
  have e16:aq.tmps.getD 16 undef= .pointer (some ⟨w7.heap.size,0,none⟩):=h.at_out 16 rfl
  have c0:=h.mem.1.cellS (by rw[Z0 gp8w];rfl:w1.cell? ⟨_,0,none⟩=some (.int .i64 93))
  have c1:=h.mem.1.cellS (by rw[Z0 gp8w];rfl:w1.cell? ⟨_,1,none⟩=some (.int .i64 102))
  exact h.dg (hg:=Z4 rfl) (r:=by simp[go_sem,execOp,Act.eval,e16,c0,c1]) (m:=h.mem.k)
 ·intro ℓ aq W hl hp h
  refine h.callG rfl (Z4 rfl) rfl (by decide) rfl (by decide) (f:=34) (args:= #[.int .i64 93,.int .i64 102]) (by simp[go_sem,execOp,Act.eval,]) ?_
  refine(Z3P 93 102 W).mono ?_
  rintro e W' ⟨rfl,hE⟩
  exact⟨.agg #[.int .i64 93,.int .i64 102],rfl,(fun v' hv=>Option.some.inj (Option.some.inj hv)),h.mem.keep hE rfl⟩
 ·intro ℓ aq W hl hp h
  have e226:=h.v hp 0 226
  have e227:=h.v hp 1 227
  exact h.dg (hg:=Z4 rfl) (r:=by simp[go_sem,execOp,Act.eval,e226,e227]) (m:=h.mem.k)
 ·intro ℓ aq W hl hp h
  have e228:=h.v hp 2 228
  exact h.dg (hg:=Z4 rfl) (r:=by simp[go_sem,execOp,Act.eval,e228]) (m:=h.mem.k)
 ·intro ℓ aq W hl hp h
  have e18:aq.tmps.getD 18 undef= .pointer (some ⟨w8.heap.size,0,none⟩):=h.at_out 18 rfl
  have c0:=h.mem.1.cellS (by rw[Z0 gp9w];rfl:w1.cell? ⟨_,0,none⟩=some (.int .i64 93))
  have c1:=h.mem.1.cellS (by rw[Z0 gp9w];rfl:w1.cell? ⟨_,1,none⟩=some (.int .i64 100))
  exact h.dg (hg:=Z9 rfl rfl rfl h.size (by decide) (h.v hp 3 229)) (r:=by simp[go_sem,execOp,Act.eval,e18,c0,c1]) (m:=h.mem.k)
 ·intro ℓ aq W hl hp h
  refine h.callG rfl (Z9 rfl rfl rfl h.size (by decide) (h.v hp 3 229)) rfl (by decide) rfl (by decide) (f:=34) (args:= #[.int .i64 93,.int .i64 100]) (by simp[go_sem,execOp,Act.eval,]) ?_
  refine(Z3P 93 100 W).mono ?_
  rintro e W' ⟨rfl,hE⟩
  exact⟨.agg #[.int .i64 93,.int .i64 100],rfl,(fun v' hv=>Option.some.inj (Option.some.inj hv)),h.mem.keep hE rfl⟩
 ·intro ℓ aq W hl hp h
  have e230:=h.v hp 4 230
  have e231:=h.v hp 5 231
  exact h.dg (hg:=Z9 rfl rfl rfl h.size (by decide) (h.v hp 3 229)) (r:=by simp[go_sem,execOp,Act.eval,e230,e231]) (m:=h.mem.k)
 ·intro ℓ aq W hl hp h
  have e229:=h.v hp 3 229
  have e232:=h.v hp 6 232
  exact h.dg (hg:=Z4 rfl) (r:=by simp[go_sem,execOp,Act.eval,e229,e232]) (m:=h.mem.k)
 ·intro ℓ aq W hl hp h
  have e233:=h.v hp 7 233
  exact h.dg (hg:=Z4 rfl) (r:=by simp[go_sem,execOp,Act.eval,e233]) (m:=h.mem.k)
 ·intro ℓ aq W hl hp h
  have e20:aq.tmps.getD 20 undef= .pointer (some ⟨w9.heap.size,0,none⟩):=h.at_out 20 rfl
  have c0:=h.mem.1.cellS (by rw[Z0 gp10w];rfl:w1.cell? ⟨_,0,none⟩=some (.int .i64 73))
  have c1:=h.mem.1.cellS (by rw[Z0 gp10w];rfl:w1.cell? ⟨_,1,none⟩=some (.int .i64 80))
  exact h.dg (hg:=Z9 rfl rfl rfl h.size (by decide) (h.v hp 8 234)) (r:=by simp[go_sem,execOp,Act.eval,e20,c0,c1]) (m:=h.mem.k)
 ·intro ℓ aq W hl hp h
  refine h.callG rfl (Z9 rfl rfl rfl h.size (by decide) (h.v hp 8 234)) rfl (by decide) rfl (by decide) (f:=34) (args:= #[.int .i64 73,.int .i64 80]) (by simp[go_sem,execOp,Act.eval,]) ?_
  refine(Z3P 73 80 W).mono ?_
  rintro e W' ⟨rfl,hE⟩
  exact⟨.agg #[.int .i64 73,.int .i64 80],rfl,(fun v' hv=>Option.some.inj (Option.some.inj hv)),h.mem.keep hE rfl⟩
 ·intro ℓ aq W hl hp h
  have e235:=h.v hp 9 235
  have e236:=h.v hp 10 236
  exact h.dg (hg:=Z9 rfl rfl rfl h.size (by decide) (h.v hp 8 234)) (r:=by simp[go_sem,execOp,Act.eval,e235,e236]) (m:=h.mem.k)
 ·intro ℓ aq W hl hp h
  have e234:=h.v hp 8 234
  have e237:=h.v hp 11 237
  exact h.dg (hg:=Z4 rfl) (r:=by simp[go_sem,execOp,Act.eval,e234,e237]) (m:=h.mem.k)
 ·intro ℓ aq W hl hp h
  have e238:=h.v hp 12 238
  exact h.dg (hg:=Z4 rfl) (r:=by simp[go_sem,execOp,Act.eval,e238]) (m:=h.mem.k)
 ·intro ℓ aq W hl hp h
  have e22:aq.tmps.getD 22 undef= .int .i64 1:=h.at_out 22 rfl
  exact h.dg (hg:=Z9 rfl rfl rfl h.size (by decide) (h.v hp 13 239)) (r:=by simp[go_sem,execOp,Act.eval,e22]) (m:=h.mem.k)
 ·intro ℓ aq W hl hp h
  have e240:=h.v hp 14 240
  exact h.dg (hg:=Z9 rfl rfl rfl h.size (by decide) (h.v hp 13 239)) (r:=by simp[go_sem,execOp,Act.eval,e240]) (m:=h.mem.k)
 ·intro ℓ aq W hl hp h
  have e239:=h.v hp 13 239
  have e241:=h.v hp 15 241
  exact h.dg (hg:=Z4 rfl) (r:=by simp[go_sem,execOp,Act.eval,e239,e241]) (m:=h.mem.k)
 ·intro ℓ aq W hl hp h
  have e242:=h.v hp 16 242
  exact h.dg (hg:=Z4 rfl) (r:=by simp[go_sem,execOp,Act.eval,e242]) (m:=h.mem.k)
 ·intro ℓ aq W hl hp h
  have e24:aq.tmps.getD 24 undef= .int .i64 0:=h.at_out 24 rfl
  exact h.dg (hg:=Z9 rfl rfl rfl h.size (by decide) (h.v hp 17 243)) (r:=by simp[go_sem,execOp,Act.eval,e24]) (m:=h.mem.k)
 ·intro ℓ aq W hl hp h
  have e244:=h.v hp 18 244
  exact h.dg (hg:=Z9 rfl rfl rfl h.size (by decide) (h.v hp 17 243)) (r:=by simp[go_sem,execOp,Act.eval,e244]) (m:=h.mem.k)
 ·intro ℓ aq W hl hp h
  have e243:=h.v hp 17 243
  have e245:=h.v hp 19 245
  exact h.dg (hg:=Z4 rfl) (r:=by simp[go_sem,execOp,Act.eval,e243,e245]) (m:=h.mem.k)
 ·intro ℓ aq W hl hp h
  have e246:=h.v hp 20 246
  exact h.dg (hg:=Z4 rfl) (r:=by simp[go_sem,execOp,Act.eval,e246]) (m:=h.mem.k)
 ·intro ℓ aq W hl hp h
  have e26:aq.tmps.getD 26 undef= .int .i64 76:=h.at_out 26 rfl
  exact h.dg (hg:=Z9 rfl rfl rfl h.size (by decide) (h.v hp 21 247)) (r:=by simp[go_sem,execOp,Act.eval,e26]) (m:=h.mem.k)
 ·intro ℓ aq W hl hp h
  have e248:=h.v hp 22 248
  exact h.dg (hg:=Z9 rfl rfl rfl h.size (by decide) (h.v hp 21 247)) (r:=by simp[go_sem,execOp,Act.eval,e248]) (m:=h.mem.k)
 ·intro ℓ aq W hl hp h
  have e247:=h.v hp 21 247
  have e249:=h.v hp 23 249
  exact h.dg (hg:=Z4 rfl) (r:=by simp[go_sem,execOp,Act.eval,e247,e249]) (m:=h.mem.k)
 ·intro ℓ aq W hl hp h
  have e250:=h.v hp 24 250
  exact h.dg (hg:=Z4 rfl) (r:=by simp[go_sem,execOp,Act.eval,e250]) (m:=h.mem.k)
 ·intro ℓ aq W hl hp h
  have e27:aq.tmps.getD 27 undef= .int .i64 4:=h.at_out 27 rfl
  exact h.dg (hg:=Z9 rfl rfl rfl h.size (by decide) (h.v hp 25 251)) (r:=by simp[go_sem,execOp,Act.eval,e27]) (m:=h.mem.k)
 ·intro ℓ aq W hl hp h
  have e252:=h.v hp 26 252
  exact h.dg (hg:=Z9 rfl rfl rfl h.size (by decide) (h.v hp 25 251)) (r:=by simp[go_sem,execOp,Act.eval,e252]) (m:=h.mem.k)
 ·intro ℓ aq W hl hp h
  have e251:=h.v hp 25 251
  have e253:=h.v hp 27 253
  exact h.dg (hg:=Z4 rfl) (r:=by simp[go_sem,execOp,Act.eval,e251,e253]) (m:=h.mem.k)
 ·intro ℓ aq W hl hp h
  have e254:=h.v hp 28 254
  exact h.dg (hg:=Z4 rfl) (r:=by simp[go_sem,execOp,Act.eval,e254]) (m:=h.mem.k)
 ·intro ℓ aq W hl hp h
  have e29:aq.tmps.getD 29 undef= .int .i64 14:=h.at_out 29 rfl
  exact h.dg (hg:=Z9 rfl rfl rfl h.size (by decide) (h.v hp 29 255)) (r:=by simp[go_sem,execOp,Act.eval,e29]) (m:=h.mem.k)
 ·intro ℓ aq W hl hp h
  have e256:=h.v hp 30 256
  exact h.dg (hg:=Z9 rfl rfl rfl h.size (by decide) (h.v hp 29 255)) (r:=by simp[go_sem,execOp,Act.eval,e256]) (m:=h.mem.k)
 ·intro ℓ aq W hl hp h
  have e255:=h.v hp 29 255
  have e257:=h.v hp 31 257
  exact h.dg (hg:=Z4 rfl) (r:=by simp[go_sem,execOp,Act.eval,e255,e257]) (m:=h.mem.k)
 ·intro ℓ aq W hl hp h
  have e258:=h.v hp 32 258
  exact h.dg (hg:=Z4 rfl) (r:=by simp[go_sem,execOp,Act.eval,e258]) (m:=h.mem.k)
 ·intro ℓ aq W hl hp h
  have e30:aq.tmps.getD 30 undef= .pointer (some ⟨w13.heap.size,0,none⟩):=h.at_out 30 rfl
  have c0:=h.mem.1.cellS (by rw[Z0 gp18w];rfl:w1.cell? ⟨_,0,none⟩=some (.int .i64 38))
  have c1:=h.mem.1.cellS (by rw[Z0 gp18w];rfl:w1.cell? ⟨_,1,none⟩=some (.int .i64 48))
  exact h.dg (hg:=Z9 rfl rfl rfl h.size (by decide) (h.v hp 33 259)) (r:=by simp[go_sem,execOp,Act.eval,e30,c0,c1]) (m:=h.mem.k)
 ·intro ℓ aq W hl hp h
  refine h.callG rfl (Z9 rfl rfl rfl h.size (by decide) (h.v hp 33 259)) rfl (by decide) rfl (by decide) (f:=34) (args:= #[.int .i64 38,.int .i64 48]) (by simp[go_sem,execOp,Act.eval,]) ?_
  refine(Z3P 38 48 W).mono ?_
  rintro e W' ⟨rfl,hE⟩
  exact⟨.agg #[.int .i64 38,.int .i64 48],rfl,(fun v' hv=>Option.some.inj (Option.some.inj hv)),h.mem.keep hE rfl⟩
 ·intro ℓ aq W hl hp h
  have e260:=h.v hp 34 260
  have e261:=h.v hp 35 261
  exact h.dg (hg:=Z9 rfl rfl rfl h.size (by decide) (h.v hp 33 259)) (r:=by simp[go_sem,execOp,Act.eval,e260,e261]) (m:=h.mem.k)
 ·intro ℓ aq W hl hp h
  have e259:=h.v hp 33 259
  have e262:=h.v hp 36 262
  exact h.dg (hg:=Z4 rfl) (r:=by simp[go_sem,execOp,Act.eval,e259,e262]) (m:=h.mem.k)
 ·intro ℓ aq W hl hp h
  have e263:=h.v hp 37 263
  exact h.dg (hg:=Z4 rfl) (r:=by simp[go_sem,execOp,Act.eval,e263]) (m:=h.mem.k)
 ·intro ℓ aq W hl hp h
  have e33:aq.tmps.getD 33 undef= .slice a33 2 c33:=h.at_out 33 rfl
  exact h.dg (hg:=Z9 rfl rfl rfl h.size (by decide) (h.v hp 38 264)) (r:=by simp[go_sem,execOp,Act.eval,e33]) (m:=h.mem.k)
 ·intro ℓ aq W hl hp h
  exact h.detG rfl (Z9 rfl rfl rfl h.size (by decide) (h.v hp 38 264)) rfl (by decide) rfl (by decide) (fun v' hv=>by simp at hv) (by simp[go_sem,execOp,Act.eval,]) (h.mem.make (c:=⟨40,266,2,#[.int .i64 1,.int .i64 3],3⟩) rfl (by intro e he hs;simp only[List.mem_cons,List.not_mem_nil,or_false] at he;rcases he with rfl|rfl<;>first|exact⟨rfl,rfl,rfl⟩|(simp at hs)))
 ·intro ℓ aq W hl hp h
  have e265:=h.v hp 39 265
  obtain⟨b9,x9,l9,m9⟩:=h.mem.2 ⟨40,266,2,#[.int .i64 1,.int .i64 3],3⟩ (by simp) (hp 40 (by decide))
  replace x9:aq.tmps.getD 266 undef= .slice (some ⟨b9,0,none⟩) 2 2:=x9
  refine h.callG rfl (Z9 rfl rfl rfl h.size (by decide) (h.v hp 38 264)) rfl (by decide) rfl (by decide) (f:=58) (args:= #[.slice a33 2 c33,.slice (some ⟨b9,0,none⟩) 2 2]) (by simp[go_sem,execOp,Act.eval,e265,x9]) ?_
  refine(Z1d a33 2 c33 [1,3] (some ⟨b9,0,none⟩) 2 2 [1,3] W rfl rfl (by decide) (hr33w.ext h.mem.1) (Z0V m9 rfl)).mono ?_
  rintro e W' ⟨rfl,hE⟩
  exact⟨_,rfl,(fun v' hv=>by rw[←Option.some.inj (Option.some.inj hv)];rfl),h.mem.keep hE rfl⟩
 ·intro ℓ aq W hl hp h
  have e264:=h.v hp 38 264
  have e267:=h.v hp 41 267
  exact h.dg (hg:=Z4 rfl) (r:=by simp[go_sem,execOp,Act.eval,e264,e267]) (m:=h.mem.k)
 ·intro ℓ aq W hl hp h
  have e268:=h.v hp 42 268
  exact h.dg (hg:=Z4 rfl) (r:=by simp[go_sem,execOp,Act.eval,e268]) (m:=h.mem.k)
 ·intro ℓ aq W hl hp h
  have e35:aq.tmps.getD 35 undef= .slice a35 3 c35:=h.at_out 35 rfl
  exact h.dg (hg:=Z9 rfl rfl rfl h.size (by decide) (h.v hp 43 269)) (r:=by simp[go_sem,execOp,Act.eval,e35]) (m:=h.mem.k)
 ·intro ℓ aq W hl hp h
  exact h.detG rfl (Z9 rfl rfl rfl h.size (by decide) (h.v hp 43 269)) rfl (by decide) rfl (by decide) (fun v' hv=>by simp at hv) (by simp[go_sem,execOp,Act.eval,]) (h.mem.make (c:=⟨45,271,3,#[.int .i64 0,.int .i64 1,.int .i64 2],3⟩) rfl (by intro e he hs;simp only[List.mem_cons,List.not_mem_nil,or_false] at he;rcases he with rfl|rfl<;>first|exact⟨rfl,rfl,rfl⟩|(simp at hs)))
 ·intro ℓ aq W hl hp h
  have e270:=h.v hp 44 270
  obtain⟨b9,x9,l9,m9⟩:=h.mem.2 ⟨45,271,3,#[.int .i64 0,.int .i64 1,.int .i64 2],3⟩ (by simp) (hp 45 (by decide))
  replace x9:aq.tmps.getD 271 undef= .slice (some ⟨b9,0,none⟩) 3 3:=x9
  refine h.callG rfl (Z9 rfl rfl rfl h.size (by decide) (h.v hp 43 269)) rfl (by decide) rfl (by decide) (f:=58) (args:= #[.slice a35 3 c35,.slice (some ⟨b9,0,none⟩) 3 3]) (by simp[go_sem,execOp,Act.eval,e270,x9]) ?_
  refine(Z1d a35 3 c35 [0,1,2] (some ⟨b9,0,none⟩) 3 3 [0,1,2] W rfl rfl (by decide) (hr35w.ext h.mem.1) (Z0V m9 rfl)).mono ?_
  rintro e W' ⟨rfl,hE⟩
  exact⟨_,rfl,(fun v' hv=>by rw[←Option.some.inj (Option.some.inj hv)];rfl),h.mem.keep hE rfl⟩
 ·intro ℓ aq W hl hp h
  have e269:=h.v hp 43 269
  have e272:=h.v hp 46 272
  exact h.dg (hg:=Z4 rfl) (r:=by simp[go_sem,execOp,Act.eval,e269,e272]) (m:=h.mem.k)
 ·intro ℓ aq W hl hp h
  have e273:=h.v hp 47 273
  exact h.dg (hg:=Z4 rfl) (r:=by simp[go_sem,execOp,Act.eval,e273]) (m:=h.mem.k)
 ·intro ℓ aq W hall h
  have e0:aq.tmps.getD 0 undef= .bool true:=h.vals 48 0 _ rfl rfl (hall 48 (by decide))
  have hEf:=hEw.trans (hcw.trans h.mem.1)
  go_wp2
  refine bodyPost_ret (results_tmp rfl _ _ _) h.defers ?_
  exact⟨by rw[e0],hEf⟩
end Go.Proofs.Tryq
namespace Go.Proofs.Tryq
set_option maxRecDepth 100000
set_option maxHeartbeats 4000000
open Go Go.Nk Go.RowKit
theorem ZfO(r0 r1 r2 r3:Int)(base:Option Addr)(n cap:Nat)(u1 u2 mk:Int)(S:List Rs)(w:World)(hlen:S.length=n)(hu1:0≤u1∧u1<256)(hu2:0≤u2∧u2<256)(hmk:0≤mk∧mk<65536)(hM:Meas w)(hmo:Most w)(hd:Deb w)(hS:RawS w base S):
 Calls prog 10 #[.agg #[.int .i64 r0,.int .i64 r1,.int .i64 r2,.int .i64 r3,.slice base n cap],.int .u8 u1,.int .u8 u2,.int .u16 mk] w fun e w'=>e= .returned (.bool true):=by
 have hfa:=fun W (hW:Ext w W)=>Zgb r0 r1 r2 r3 base n cap S W hlen (hS.ext hW)
 have hsh:∀W,Ext w W→Calls prog 22 #[] W fun e w'=>e= .returned (.bool true)∧Ext W w':=fun W (hW:Ext w W)=>Zce W (hM.ext hW) (hmo.ext hW) (hd.ext hW)
 cases hf:ZfR r0 r1 r2 r3 S with
 |false=>
  simp only[hf] at hfa
  exact Zgd r0 r1 r2 r3 base n cap u1 u2 mk w hfa hsh
 |true=>
  simp only[hf] at hfa
  have hcf:ZC r0 r1 r2 r3 S=0:=by simp[ZfR] at hf;exact hf.2
  have hn8:=(Zav hcf).len
  rw[hlen] at hn8
  have hup:∀W,Ext w W→Calls prog 44 #[.int .i64 n] W fun e w'=>∃x,e= .returned x∧(∃ao cp,x= .slice ao n cp∧RawI w' ao (upL n)∧n≤cp)∧Ext W w':=by
   intro W hW
   refine(Zg9 n W (by omega)).mono ?_
   rintro e w2 ⟨x,rfl,hx,hE⟩
   obtain⟨bl,cl,rfl,hI,hcl⟩:=hx.rawI
   have hl:(upL n).length=n:=by simp[upL]
   rw[hl] at hcl
   exact⟨_,rfl,⟨bl,cl,by rw[hl],hI,hcl⟩,hE⟩
  have hft:=fun W ao cp (hW:Ext w W)(hI:RawI W ao (upL n))(_:n≤cp)=>Zg2 r0 r1 r2 r3 base n cap S ao n cp (upL n) W hlen (by omega) (by simp[upL]) (by omega) (fun j hj=>mem_upL.1 hj) (hS.ext hW) hI
  cases hq:Z20 r0 r1 r2 r3 S (upL n) with
  |false=>
   simp only[hq] at hft
   exact Zge r0 r1 r2 r3 base n cap u1 u2 mk w hfa hup hft hsh
  |true=>
   simp only[hq] at hft
   by_cases hz:n=0
   ·exact Zgf r0 r1 r2 r3 base n cap u1 u2 mk w hfa hup hft (by rw[hz];rfl) hsh
   ·have hg:Fine r0 r1 r2 r3 S:=⟨hcf,fun e=>hz (by rw[←hlen,e];rfl),by rw[hlen];exact hq⟩
    obtain⟨d,hd0⟩:∃d:Int,d=min (min u1 u2 % 91) (max u1 u2 % 91):=⟨_,rfl⟩
    obtain⟨e,he0⟩:∃e:Int,e=max (min u1 u2 % 91) (max u1 u2 % 91):=⟨_,rfl⟩
    have hdd:0≤d∧d≤90:=by omega
    obtain⟨c,hc1,hc2,hwr,hsp⟩:=hg.widest (a:=d) (b:=e) (by omega) (by omega) (by omega)
    have hcc:0≤c∧c≤90:=by omega
    have hwf:=hg.widFoul (a:=d) (b:=e) (by omega) (by omega) (by omega)
    have hb1:=fun W (hW:Ext w W)=>Zc8 r0 r1 r2 r3 base n cap W d S hlen (hS.ext hW) (hmo.ext hW)
    have hb2:=fun W (hW:Ext w W)=>Zc8 r0 r1 r2 r3 base n cap W c S hlen (hS.ext hW) (hmo.ext hW)
    have hwd:=fun W (hW:Ext w W)=>Z8G r0 r1 r2 r3 base n cap W d e S hlen (hS.ext hW) (hmo.ext hW)
    have hma:=fun W (hW:Ext w W)=>Z86 r0 r1 r2 r3 base n cap W c S hlen (hS.ext hW) (hmo.ext hW)
    have hh:∀(m k:Int),-99999≤m∧m≤99999→0≤k∧k≤99999→∀W,Ext w W→Calls prog 53 #[.agg #[.int .i64 r0,.int .i64 r1,.int .i64 r2,.int .i64 r3,.slice base n cap],.int .i64 d,.int .i64 m,.int .i64 k] W fun e w'=>e= .returned (.tuple #[.int .i64 (Z6c r0 r1 r2 r3 S d m k),.int .i64 0])∧Ext W w':=by
     intro m k h1 h2 W hW
     have:=Zc7 r0 r1 r2 r3 base n cap W d m k S hlen (hS.ext hW) (hmo.ext hW)
     rw[hg.hitsF hdd h1 h2] at this
     exact this
    simp only[hg.markF hdd,hg.markF hcc,hg.bestR hdd,hg.bestR hcc,hg.markR hcc,hwf,hwr] at hb1 hb2 hwd hma
    have a1:=hg.le hdd
    have a2:=hg.inB hdd
    have hit:=fun m k (h1: -99999≤m∧m≤99999)(h2:0≤k∧k≤99999)=>hg.hits (m:=m) (k:=k) hdd h1 h2
    have hit1:=fun m k=>hg.hits1 (m:=m) (k:=k) hdd
    generalize Z4L r0 r1 r2 r3 S d=x at hb1 hsp a1 a2 hit hit1
    generalize Z4L r0 r1 r2 r3 S c=y at hwd hma hb2 hsp
    obtain⟨xa,xb⟩:=x
    obtain⟨ya,yb⟩:=y
    simp only at hb1 hwd hma hb2 hsp a1 a2 hit hit1
    obtain⟨off,hoff⟩:∃z,(xb - xa+1) / 2=z:=⟨_,rfl⟩
    obtain⟨off2,hoff2⟩:∃z,(yb - ya+1) / 2=z:=⟨_,rfl⟩
    rw[hoff] at hb1
    rw[hoff2] at hb2
    have ho:0≤off∧off≤off2∧2*off≤xb - xa+1∧xb - xa≤2*off:=by
     clear hd0 he0 hfa hup hft hsh hb1 hb2 hwd hma hh hit hit1 hM hmo hd hS hwr hwf
     omega
    clear hoff hoff2 hM hmo hd hS hwr hwf
    have hn0:((n:Int)==0)=false:=beq_eq_false_iff_ne.2 (by omega)
    refine Zg7 r0 r1 r2 r3 base n cap u1 u2 mk w hfa hup hft hn0 hu1 hu2 hmk d e c (xb - off) off off2 (Z6c r0 r1 r2 r3 S d mk (off - 1)) (Z6c r0 r1 r2 r3 S d (xb - off) (off - 1)) ya yb hd0 he0 hb1 hwd hma (fun W hW=>(hb2 W hW).mono fun _ _ h=>⟨_,h⟩) ⟨hc1,hc2⟩ ⟨ho.1,ho.2.1⟩ ?_ ?_ ?_ ?_ ?_ hsh
    ·intro h1 h2 h3 W hW
     have h4:=hh (xb - off) off ⟨h1,h2⟩ ⟨ho.1,h3⟩ W hW
     rw[(hit (xb - off) off ⟨h1,h2⟩ ⟨ho.1,h3⟩).2 (by omega)] at h4
     exact h4
    ·exact fun h1 h2=>hh mk (off - 1) (by omega) (by omega)
    ·exact fun h1 h2 h3 h4=>hh (xb - off) (off - 1) ⟨h1,h2⟩ (by omega)
    ·exact bne_iff_ne.2 fun h=>by have:=hit1 _ _ h;omega
    ·exact bne_iff_ne.2 fun h=>by have:=hit1 _ _ h;omega
end Go.Proofs.Tryq
section
set_option maxRecDepth 100000
namespace Go.Proofs.YtedkbdkbbnemlaaGreatDoor
open Go
namespace JarrowBest
theorem k0:Rows.arrowBestRow.wf (OpenSpec.ofChange Rows.arrowBestSpec)=true:=by kernel_rfl
theorem k1:laidOutB Tryz.prog=true:=by kernel_rfl
theorem k2:mapsRowed Tryz.prog=true:=by kernel_rfl
theorem k3:Tryz.f10.params.all (Tryz.prog.readableRec ·)=true:=by kernel_rfl
theorem k4:namedTie Tryz.prog Rows.arrowBestRow.named Rows.arrowBestSpec.vars=true:=by kernel_rfl
theorem k5:(Rows.arrowBestRow.stops==[])=true:=by kernel_rfl
theorem k6:(Tryz.prog.stops==[])=true:=by kernel_rfl
theorem k7:(Rows.arrowBestRow.knobs==[])=true:=by kernel_rfl
theorem k8:(Tryz.prog.stopKnobs==[])=true:=by kernel_rfl
theorem k9:(Rows.arrowBestRow.inPlace==Tryz.prog.inPlace 10)=true:=by kernel_rfl
theorem k10:(Rows.arrowBestRow.unfollowed==Tryz.prog.unfollowed 10)=true:=by kernel_rfl
theorem k11:(Rows.arrowBestRow.recurses==Tryz.prog.recurses 10)=true:=by kernel_rfl
theorem k12:(Rows.arrowBestRow.named==Tryz.prog.varsNamed 10)=true:=by kernel_rfl
theorem k13:(Rows.arrowBestRow.maps==(Tryz.f10.params.toList++Rows.arrowBestSpec.plain.varTypes Tryz.prog).any (Tryz.prog.mapsRec ·))=true:=by kernel_rfl
theorem k14:(Rows.arrowBestRow.ifaces==(Tryz.f10.params.toList++Rows.arrowBestSpec.plain.varTypes Tryz.prog).any (Tryz.prog.ifacesRec ·))=true:=by kernel_rfl
theorem k15:(Rows.arrowBestRow.mapsOut==Tryz.prog.mapsAmong Tryz.f10.resultTypes.toList)=true:=by kernel_rfl
theorem k16:(Rows.arrowBestRow.loops==(Tryz.f10.params.toList++Rows.arrowBestSpec.plain.varTypes Tryz.prog).any (Tryz.prog.loopsFrom ·))=true:=by kernel_rfl
theorem k17:(Rows.arrowBestRow.wideKeys==(Tryz.f10.params.toList++Rows.arrowBestSpec.plain.varTypes Tryz.prog++Tryz.f10.resultTypes.toList).any (Tryz.prog.wideKeysFrom ·))=true:=by kernel_rfl
theorem k18:Rows.arrowBestSpec.vars.all (Tryz.prog.varReadable ·)=true:=by kernel_rfl
theorem k19:Tryz.f10.resultTypes.all (fun t=>Tryz.prog.readableRec t&&decide (t<Tryz.prog.types.size))=true:=by kernel_rfl
theorem k20:(Rows.arrowBestRow.ifacesOut==Tryz.f10.resultTypes.toList.any (Tryz.prog.ifacesRec ·))=true:=by kernel_rfl
theorem k21:(Rows.arrowBestRow.loopsOut==Tryz.f10.resultTypes.toList.any (Tryz.prog.loopsFrom ·))=true:=by kernel_rfl
theorem k22:(Rows.arrowBestRow.plainKeys==Tryz.prog.plainKeys)=true:=by kernel_rfl
theorem k23:Rows.arrowBestRow.shortTexts.isNone=true:=by kernel_rfl
theorem k24:Tryz.prog.stopsHeard=true:=by kernel_rfl
theorem k25:Tryz.prog.mayEnter=true:=by kernel_rfl
theorem k26:(Rows.arrowBestRow.lifted==Tryz.prog.liftsFinal)=true:=by kernel_rfl
theorem k27:(Tryz.prog.make==some Rows.arrowBestRow.make)=true:=by kernel_rfl
theorem k28:(Rows.arrowBestRow.kinds==(if Rows.arrowBestRow.domain.isEmpty then[] else Tryz.f10.params.toList.map fun t=>match Tryz.prog.underlying t with|some (.int k)=>some k|_=>none))=true:=by kernel_rfl
theorem k29:(Rows.arrowBestRow.pinned==Rows.arrowBestRow.pinnedBy)=true:=by kernel_rfl
theorem k30:(Rows.arrowBestRow.veiled==(Tryz.f10.params.toList++Rows.arrowBestSpec.plain.varTypes Tryz.prog++Tryz.f10.resultTypes.toList).any (Tryz.prog.veiledRec ·))=true:=by kernel_rfl
theorem k31:Rows.arrowBestRow.veiledFits Tryz.prog Tryz.f10.params.toList (Tryz.f10.params.toList++Rows.arrowBestSpec.plain.varTypes Tryz.prog++Tryz.f10.resultTypes.toList)=true:=by kernel_rfl
theorem ZI{a b:Bool}(ha:a=true)(hb:b=true):(a&&b)=true:=by rw[ha,hb];rfl
theorem facts:joinedFacts Tryz.prog 10 Tryz.f10 Rows.arrowBestSpec Rows.arrowBestRow=true:=(ZI (ZI (ZI (ZI (ZI (ZI (ZI (ZI (ZI (ZI (ZI (ZI (ZI (ZI (ZI (ZI (ZI (ZI (ZI (ZI (ZI (ZI (ZI (ZI (ZI (ZI (ZI (ZI (ZI (ZI (ZI k0 k1) k2) k3) k4) k5) k6) k7) k8) k9) k10) k11) k12) k13) k14) k15) k16) k17) k18) k19) k20) k21) k22) k23) k24) k25) k26) k27) k28) k29) k30) k31)
end JarrowBest
end Go.Proofs.YtedkbdkbbnemlaaGreatDoor
end
namespace Go.Proofs.Tryq
set_option maxRecDepth 100000
open Go Go.Nk Go.RowKit Go.ChangeShapes Go.WideShapes Go.ChangeAt Go.Conc Go.Deep
attribute [local instance] theBan
section
variable {H:Type} {enc:TypeId×Value→H} {W:World} {b0:Nat}
theorem Zf4{t:TypeId}{k:IntKind}(hu:Tryz.prog.underlying t=some (.int k))(hs:isS Tryz.prog t=false)(ha:isA Tryz.prog t=false)(hl:(Z3e Tryz.prog 0 t 0).any (fun y=>y.1==0&&y.2==t)=true)(hc1:Tryz.prog.cellsOf t=1){v:Value}{d:DataW H}{p:List MemPlace}(hv:Value.okWide Tryz.prog W .any b0 t v)(h:DataW.Trod enc Tryz.prog W 0 (fun _=>true) true t v d p):
 ∃n:Int,v= .int k n∧(Lit.int k n).wf=true∧VRel id (Nk.Live (Zx W)) v v:=by
 have hc:=Zei hv hs ha
 obtain⟨fuel,hf⟩:=h
 have e:v.cells.toList=[v]:=by
  cases v<;>first|rfl|skip
  rename_i cs
  simp[Cell.okWide,Cell.ok,hu] at hc
 rw[e] at hf
 have hcs:[v].length≤Tryz.prog.cellsOf t:=by rw[hc1];exact Nat.le_refl _
 obtain⟨x1,e1,hw⟩:=Z0z (n:=0) (o:=0) (u:=t) hcs ⟨_,_,hf⟩ hl hu
 obtain rfl:v= .int k x1:=by simpa using e1
 exact⟨x1,rfl,hw,.int _ _⟩
theorem Zf7{n:Int}(h:(Lit.int .u16 n).wf=true):0≤n∧n<65536:=by
 have h1:IntKind.u16.min=0:=rfl
 have h2:IntKind.u16.max=65535:=rfl
 simp only[Lit.wf,Bool.and_eq_true,decide_eq_true_eq] at h
 omega
theorem Zgg{n:Int}(h:(Lit.int .u8 n).wf=true):0≤n∧n<256:=by
 have h1:IntKind.u8.min=0:=rfl
 have h2:IntKind.u8.max=255:=rfl
 simp only[Lit.wf,Bool.and_eq_true,decide_eq_true_eq] at h
 omega
theorem under40:Tryz.prog.underlying 40=some (.int .u16):=by kernel_rfl
theorem ZeQ{v:Value}{d:DataW H}{p:List MemPlace}(hv:Value.okWide Tryz.prog W .any b0 40 v)(h:DataW.Trod enc Tryz.prog W 0 (fun _=>true) true 40 v d p):∃n:Int,v= .int .u16 n∧(Lit.int .u16 n).wf=true∧VRel id (Nk.Live (Zx W)) v v:=
 Zf4 under40 (by kernel_rfl) (by kernel_rfl) (by kernel_rfl) (by kernel_rfl) hv h
theorem ZfW{v:Value}{d:DataW H}{p:List MemPlace}(hv:Value.okWide Tryz.prog W .any b0 5 v)(h:DataW.Trod enc Tryz.prog W 0 (fun _=>true) true 5 v d p):∃n:Int,v= .int .u8 n∧(Lit.int .u8 n).wf=true∧VRel id (Nk.Live (Zx W)) v v:=
 Zf4 under5 (by kernel_rfl) (by kernel_rfl) (by kernel_rfl) (by kernel_rfl) hv h
theorem under68:Tryz.prog.underlying 68=some (.slice 80):=by kernel_rfl
theorem cells80:Tryz.prog.cellsOf 80=5:=by kernel_rfl
theorem cells70:Tryz.prog.cellsOf 70=5:=by kernel_rfl
theorem Zg3{v:Value}{k:Nat}{x:DataW H×List MemPlace}(hv:∃u,Cell.okWide Tryz.prog W .any b0 u v)(h:DataW.trod enc Tryz.prog W 0 (fun _=>true) true k 68 [v]=some x):
 ∃(base:Option Addr)(n cap:Nat)(S:List Rs),v= .slice base n cap∧S.length=n∧n≤cap∧cap≤maxLen∧VRel id (Nk.Live (Zx W)) v v∧RawS W base S∧∀s∈S,(Lit.int .i64 s.a).wf=true∧(Lit.int .i64 s.m).wf=true∧(Lit.int .i64 s.M).wf=true∧(Lit.int .i64 s.wi).wf=true∧(Lit.int .i64 s.li).wf=true:=by
 obtain⟨base,n,cap,e,hn,hm,hr,hel⟩:=Z5V under68 cells80 (by decide) hv h
 have key:∀i,i<n→∃s:Rs,(∃b off,base=some ⟨b,off,none⟩∧b<W.heap.size∧ShotAt W b (off+i*5) s.a s.m s.M s.wi s.li)∧((Lit.int .i64 s.a).wf=true∧(Lit.int .i64 s.m).wf=true∧(Lit.int .i64 s.M).wf=true∧(Lit.int .i64 s.wi).wf=true∧(Lit.int .i64 s.li).wf=true):=by
  intro i hi
  obtain⟨b,off,h1,h2,cs,h3,h4,h5⟩:=hel i hi
  have hcs:cs.length≤Tryz.prog.cellsOf 80:=by rw[cells80];omega
  obtain⟨x0,e0,w0⟩:=Z0z (n:=3) (o:=0) (u:=3) hcs h5 (by kernel_rfl) under3
  obtain⟨x1,e1,w1⟩:=Z0z (n:=3) (o:=1) (u:=3) hcs h5 (by kernel_rfl) under3
  obtain⟨x2,e2,w2⟩:=Z0z (n:=3) (o:=2) (u:=3) hcs h5 (by kernel_rfl) under3
  obtain⟨x3,e3,w3⟩:=Z0z (n:=3) (o:=3) (u:=3) hcs h5 (by kernel_rfl) under3
  obtain⟨x4,e4,w4⟩:=Z0z (n:=3) (o:=4) (u:=3) hcs h5 (by kernel_rfl) under3
  exact⟨⟨x0,x1,x2,x3,x4⟩,⟨b,off,h1,h2,⟨(h4 0 (by omega)).trans e0,(h4 1 (by omega)).trans e1,(h4 2 (by omega)).trans e2,(h4 3 (by omega)).trans e3,(h4 4 (by omega)).trans e4⟩⟩,w0,w1,w2,w3,w4⟩
 obtain⟨L,hL1,hL2⟩:=Zaa n key
 exact⟨base,n,cap,L,e,hL1,hn,hm,hr,fun i x hx=>(hL2 i x hx).1,fun s hs=>by obtain⟨i,hi⟩:=List.mem_iff_getElem?.1 hs;exact(hL2 i s hi).2⟩
theorem open_card{v:Value}{d:DataW H}{p:List MemPlace}(hv:Value.okWide Tryz.prog W .any b0 70 v)(h:DataW.Trod enc Tryz.prog W 0 (fun _=>true) true 70 v d p):
 ∃(r0 r1 r2 r3:Int)(base:Option Addr)(n cap:Nat)(S:List Rs),v= .agg #[.int .i64 r0,.int .i64 r1,.int .i64 r2,.int .i64 r3,.slice base n cap]∧S.length=n∧n≤cap∧cap≤maxLen∧VRel id (Nk.Live (Zx W)) v v∧RawS W base S∧
  ((Lit.int .i64 r0).wf=true∧(Lit.int .i64 r1).wf=true∧(Lit.int .i64 r2).wf=true∧(Lit.int .i64 r3).wf=true)∧∀s∈S,(Lit.int .i64 s.a).wf=true∧(Lit.int .i64 s.m).wf=true∧(Lit.int .i64 s.M).wf=true∧(Lit.int .i64 s.wi).wf=true∧(Lit.int .i64 s.li).wf=true:=by
 obtain⟨cs,rfl,hs,hx⟩:=aggOk hv (by kernel_rfl)
 obtain⟨fuel,hf⟩:=h
 have hf:DataW.trod enc Tryz.prog W 0 (fun _=>true) true fuel 70 cs.toList=some (d,p):=hf
 rw[cells70] at hs
 have hcs:cs.toList.length≤Tryz.prog.cellsOf 70:=by rw[cells70];simp[hs]
 obtain⟨x0,e0,w0⟩:=Z0z (n:=2) (o:=0) (u:=3) hcs ⟨_,_,hf⟩ (by kernel_rfl) under3
 obtain⟨x1,e1,w1⟩:=Z0z (n:=2) (o:=1) (u:=3) hcs ⟨_,_,hf⟩ (by kernel_rfl) under3
 obtain⟨x2,e2,w2⟩:=Z0z (n:=2) (o:=2) (u:=3) hcs ⟨_,_,hf⟩ (by kernel_rfl) under3
 obtain⟨x3,e3,w3⟩:=Z0z (n:=2) (o:=3) (u:=3) hcs ⟨_,_,hf⟩ (by kernel_rfl) under3
 obtain⟨sv,m,y,e4,h4⟩:=Z7R (n:=2) (o:=4) (u:=68) hcs ⟨_,_,hf⟩ (by kernel_rfl) under68
 obtain⟨base,n,cap,S,rfl,hL,hn,hm,hr,hR,hw⟩:=Zg3 (hx 4 sv (by simpa using e4)) h4
 have hcs5:=arr5 hs e0 e1 e2 e3 e4
 subst hcs5
 have hA:AR id (Nk.Live (Zx W)) #[.int .i64 x0,.int .i64 x1,.int .i64 x2,.int .i64 x3,.slice base n cap] #[.int .i64 x0,.int .i64 x1,.int .i64 x2,.int .i64 x3,.slice base n cap]:=
  ((((AR.nil.push (.int _ _)).push (.int _ _)).push (.int _ _)).push (.int _ _)).push hr
 exact⟨x0,x1,x2,x3,base,n,cap,S,rfl,hL,hn,hm,.agg hA.1 hA.2,hR,⟨w0,w1,w2,w3⟩,hw⟩
end
theorem ZfV{W:World}{base:Option Addr}{S:List Rs}(h:RawS W base S):RawS (Zx W) base S:=fun i x hi=>by
 obtain⟨b,off,h1,h2,h3⟩:=h i x hi
 exact⟨b,off,h1,by rw[Z1l];exact h2,⟨Z0d rfl h3.c0 rfl,Z0d rfl h3.c1 rfl,Z0d rfl h3.c2 rfl,Z0d rfl h3.c3 rfl,Z0d rfl h3.c4 rfl⟩⟩
theorem Zg8{W:World}(t){base:Option Addr}{S:List Rs}(h:RawS W base S):RawS (retape t W) base S:=fun i x hi=>by
 obtain⟨b,off,h1,h2,h3⟩:=h i x hi
 exact⟨b,off,h1,h2,⟨h3.c0,h3.c1,h3.c2,h3.c3,h3.c4⟩⟩
end Go.Proofs.Tryq
namespace Go.Proofs.YtedkbdkbbnemlaaGreatDoor
set_option maxRecDepth 100000
open Go Go.Nk Go.RowKit Go.ChangeShapes Go.WideShapes Go.ChangeAt Go.Conc
open Go.Proofs.Tryq (theBan Z4e Z7C Z3F open_card ZeQ ZfW Zf7 Zgg laidL ZfO Zac ZfV Za7 Zg8)
attribute [local instance] theBan
theorem ZfP(os:Os)(started:os.Started)(H:Type)(enc:TypeId×Value→H):
 ReturnsInLeavingWide {} Tryz.checked os 10 .any (fun w args=>(Rows.arrowBestSpec.pre enc Tryz.prog Tryz.f10 [] false w args∧laidMetH Tryz.prog laidL w)∧sizedMet enc Tryz.prog Tryz.f10 (OpenSpec.ofChange Rows.arrowBestSpec) false w args)
  (Rows.arrowBestSpec.post enc Tryz.prog Tryz.f10 false true false false):=by
 refine Z4e (n:=4) (ts:=[70,5,5,40]) started (by simp[Go.Proofs.Tryq.keptList]) Tryz.func10 Go.Proofs.Tryq.same10 (by kernel_rfl) Tryz.results10 (by kernel_rfl) (by rw[Tryz.params10]) rfl rfl (by kernel_rfl) (fun ds hd=>by
  match ds,hd with
  |[_,_,_,_],_=>rfl) (by kernel_rfl)
  (ChangeSpec.witness_shaped (enc:=enc) (C:=Tryz.checked) (os:=os) (X:=fun w _=>laidMetH Tryz.prog laidL w) false (World.doorLaid Tryz.prog 400 os) #[.agg #[.int .i64 0,.int .i64 0,.int .i64 0,.int .i64 0,.slice none 0 0],.int .u8 0,.int .u8 0,.int .u16 0] 8 rfl (Z3F os _) (by kernel_rfl) (by kernel_rfl) (by kernel_rfl) (Z7C os _)) ?_
 intro W base args ds p hval hA hM hmo hd
 rw[Tryz.params10] at hval
 obtain⟨v0,v1,v2,v3,d0,d1,d2,d3,p0,p1,p2,p3,rfl,rfl,rfl,h0,h1,h2,h3⟩:=trodAll_four hA
 obtain⟨r0,r1,r2,r3,ab,n,cap,S,rfl,hL,hn,hcap,hr0,hS,_,_⟩:=open_card (hval 0 70 v0 rfl rfl) h0
 obtain⟨u1,rfl,hw1,hr1⟩:=ZfW (hval 1 5 v1 rfl rfl) h1
 obtain⟨u2,rfl,hw2,hr2⟩:=ZfW (hval 2 5 v2 rfl rfl) h2
 obtain⟨mk,rfl,hw3,hr3⟩:=ZeQ (hval 3 40 v3 rfl rfl) h3
 refine⟨(((AR.nil.push hr0).push hr1).push hr2).push hr3,fun t=> ?_⟩
 exact ZfO r0 r1 r2 r3 ab n cap u1 u2 mk S (retape t (Zx W)) hL (Zgg hw1) (Zgg hw2) (Zf7 hw3) hM (Za7 t hmo) hd (Zg8 t (ZfV hS))
theorem arrowBest_row:Rows.ArrowBestSaid:=
 OpenClaim.holds_of_wide_leaving 10 Tryz.f10 rfl rfl rfl rfl rfl rfl rfl ⟨rfl,rfl,rfl,rfl,rfl⟩ rfl rfl rfl rfl rfl (by kernel_rfl) Tryz.func10 JarrowBest.facts
  (of_decide_eq_true (by kernel_rfl)) (by unfold Func.isWrapper;first|(rw[if_pos (by decide+kernel)];kernel_rfl)|(rw[if_neg (by decide+kernel)];exact⟨rfl,rfl⟩))
  (fun os started H enc _=>ZfP os started H enc)
theorem arrowBest_card:Rows.ArrowBestCardSaid:=
 Zac .later [.data,.data,.data,.funcs] true (true,"0e1059176c690520e63ed0d32383d6ff1680ebd08dcb3a61820afc84c46f7b58") false
  arrowBest_row (by kernel_rfl) arrowBest_row_tie rfl ⟨rfl,rfl⟩ (by kernel_rfl) rfl
  (fun f fn hf hfn=>by
    obtain rfl:f=10:=Option.some.inj ((show Tryz.prog.funcNamed "nock/nocklaw01.ArrowBest" =some 10 by kernel_rfl).symm.trans hf) |>.symm
    obtain rfl:fn=Tryz.f10:=(Option.some.inj (Tryz.func10.symm.trans hfn)).symm
    exact⟨by kernel_rfl,fun j t ht=>by
     rw[Tryz.params10] at ht
     have hm:t∈[70,5,5,40]:=by simpa using Array.mem_of_getElem? ht
     have hall:([70,5,5,40].all fun u=> !Tryz.prog.wantsStandIn u)=true:=by kernel_rfl
     exact(show Tryz.prog.wantsStandIn t=false by simpa using List.all_eq_true.1 hall t hm)⟩)
  (by kernel_rfl)
end Go.Proofs.YtedkbdkbbnemlaaGreatDoor
