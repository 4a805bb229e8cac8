import Derived.Test.YtedkbdkbbnemlaaGreatDoorNk28
import Derived.Deep.AppendLies
set_option linter.all false
namespace Go.Proofs.Tryq
set_option maxRecDepth 100000
set_option maxHeartbeats 8000000
open Go Go.Nk Go.RowKit
theorem u68:prog.underlying 68=some (.slice 80):=(underlying_eq 68).trans Tryz.underlying68
theorem i80:prog.info? 80=some Tryz.t80:=by kernel_rfl
theorem t80z:Tryz.t80.zero=some (.agg #[.int .i64 0,.int .i64 0,.int .i64 0,.int .i64 0,.int .i64 0]):=by kernel_rfl
theorem t80s:Tryz.t80.size=5:=by kernel_rfl
theorem t80b:Tryz.t80.bytes=40:=by kernel_rfl
theorem ZaN{w:World}{b:Nat}{A:List Ap}{C:Array Value}(h:w.heap[b]? =some (.cells C 46))(hC:C.toList=A.flatMap apC):RawAp w (some ⟨b,0,none⟩) A:=by
 have key:∀(A:List Ap)(i j:Nat)(x:Ap),A[i]? =some x->j<4->(A.flatMap apC)[i*4+j]? =(apC x)[j]? :=by
  intro A
  induction A with
  |nil=>intro i j x h;simp at h
  |cons y A ih=>
   intro i j x hx hj;rw[List.flatMap_cons];have hl:(apC y).length=4:=rfl;cases i with
   |zero=>
    simp at hx;subst hx;rw[List.getElem?_append_left (by omega)];simp
   |succ i=>
    rw[List.getElem?_append_right (by omega),hl,show(i+1)*4+j - 4=i*4+j by omega];exact ih i j x (by simpa using hx) hj
 intro i x hx;have hc:∀j,j<4->w.cell? ⟨b,0+i*4+j,none⟩=(apC x)[j]? :=by
  intro j hj;rw[Z0 h,Nat.zero_add,<-Array.getElem?_toList,hC,key A i j x hx hj]
 exact⟨b,0,rfl,Z5 h,hc 0 (by omega),hc 1 (by omega),hc 2 (by omega),hc 3 (by omega)⟩
theorem Zcc{w:World}{b:Nat}{x0 x1 x2 y0 y1 y2:Int}(h0:w.heap[b]? =some (.cells #[.int .i64 x0,.int .i64 x1,.int .i64 x2] 3))(h1:w.heap[b+1]? =some (.cells #[.int .i64 y0,.int .i64 y1,.int .i64 y2] 3))
 (h2:w.heap[b+1+1]? =some (.cells #[.slice (some ⟨b,0,none⟩) 3 3,.slice (some ⟨b+1,0,none⟩) 3 3] 27)):RawL w (some ⟨b+1+1,0,none⟩) [[x0,x1,x2],[y0,y1,y2]]:=by
 intro i l hl
 match i,hl with
 |0,hl=>
  obtain rfl:=Option.some.inj hl;exact⟨b+1+1,0,_,3,rfl,Z5 h2,by rw[Z0 h2];rfl,by simp,Z0V h0 rfl⟩
 |1,hl=>
  obtain rfl:=Option.some.inj hl;exact⟨b+1+1,0,_,3,rfl,Z5 h2,by rw[Z0 h2];rfl,by simp,Z0V h1 rfl⟩
theorem Zcd{w:World}{b base:Nat}(h:w.heap[b]? =some (.cells #[] 80))(hb:base<=b):w.ownsRow base 80 5 (.slice (some ⟨b,0,none⟩) 0 0) 0 []:=⟨rfl,.inr ⟨b,0,#[],rfl,hb,h,Nat.le_refl _,by simp[maxLen],rfl,rfl⟩⟩
theorem OwnAp.rawAp{b:Nat}{w:World}{v:Value}{A:List Ap}(h:OwnAp b w v A):∃ao cp,v= .slice ao A.length cp/\RawAp w ao A:=by
 by_cases h0:A=[]
 ·subst h0;rcases h.2 with⟨rfl,_⟩|⟨g,cp,_,rfl,_⟩
  ·exact⟨none,0,rfl,fun i x hx=>by simp at hx⟩
  ·exact⟨_,cp,rfl,fun i x hx=>by simp at hx⟩
 ·have hp:0<A.length:=List.length_pos_iff.2 h0;obtain⟨g,cp,rfl,_,hg⟩:=World.ownsRow.form h hp;refine⟨_,cp,rfl,fun i x hx=> ?_⟩;have key:∀(A:List Ap)(i j:Nat)(x:Ap),A[i]? =some x->j<4->(A.flatMap apC)[i*4+j]? =(apC x)[j]? :=by
   intro A
   induction A with
   |nil=>intro i j x h;simp at h
   |cons y A ih=>
    intro i j x hx hj;rw[List.flatMap_cons];have hl:(apC y).length=4:=rfl;cases i with
    |zero=>
     simp at hx;subst hx;rw[List.getElem?_append_left (by omega)];simp
    |succ i=>
     rw[List.getElem?_append_right (by omega),hl,show(i+1)*4+j - 4=i*4+j by omega];exact ih i j x (by simpa using hx) hj
  have hc:∀j u,j<4->(apC x)[j]? =some u->w.cell? ⟨g,0+i*4+j,none⟩=some u:=by
   intro j u hj hu;have h2:=h.cells (g:=g) rfl (i*4+j) u (by rw[key A i j x hx hj];exact hu);rw[Z0c] at h2;rw[Nat.zero_add];exact h2
  exact⟨g,0,rfl,hg,hc 0 _ (by omega) rfl,hc 1 _ (by omega) rfl,hc 2 _ (by omega) rfl,hc 3 _ (by omega) rfl⟩
theorem Zce(w:World)(hM:Meas w)(Bn:Most w)(hd:Deb w):Calls prog 22 #[] w fun e w'=>e= .returned (.bool true)/\Ext w w':=by
 go_enter func22,ntmps22;go_wp2_with fail;refine(Z6U _).mono ?_;rintro e wA ⟨B,rfl,hBe,hEA⟩;rename_i Q K hK;refine hK _ _ ?_;clear hK;go_wp2_with fail;refine(Zar _).mono ?_;rintro e w0 ⟨D,rfl,hDe,hEB⟩;have G6:=hEA.trans hEB;have Hr:=ZdF (hEB.get hBe);have P0:RawS w0 (some ⟨D,0,none⟩) exS:=Z6Y hDe rfl;have Qv:=hM.ext G6;have Br:=Bn.ext G6;have X9:=hd.ext G6;have Cz:=Ext.rfl' w0;rename_i Q K hK;refine hK _ _ ?_;clear hK;go_wp2_with fail;refine(Z59 [0,1,2] 3 1 rfl (by decide) v_m1 B _ _ (Qv.ext ((((Cz.alloc _).alloc _).alloc _))) (Hr.ext ((((Cz.alloc _).alloc _).alloc _))) (Z0V (l:=[0,1,2]) (by simp only[Z3,Z2];exact if_pos trivial) rfl)).mono ?_;rintro e w1 ⟨rfl,hE⟩;have D6:Ext w0 w1:=((((Ext.rfl' w0).alloc _).alloc _).alloc _).trans hE;have gs1:w1.heap[w0.heap.size]? =some (.cells #[.int .i64 10,.int .i64 2,.int .i64 5,.int .i64 3,.slice (some ⟨B,0,none⟩) 7 7] 26):=hE.get (by simp only[Z3,Z2];rw[if_neg (by omega),if_neg (by omega),if_pos trivial]);have gc1:w1.heap[w0.heap.size+1]? =some (.cells #[.int .i64 2,.int .i64 4,.int .i64 1,.int .i64 2,.slice (some ⟨D,0,none⟩) 3 3] 70):=hE.get (by simp only[Z3,Z2];rw[if_neg (by omega),if_pos trivial]);have Ek:=Cz.trans D6;clear hE
 have hlt1:=Z5 gc1;have hlu1:=Z5 gs1;have q0:=Z0 gs1 0;have q1:=Z0 gs1 1;have q2:=Z0 gs1 2;have q3:=Z0 gs1 3;have q4:=Z0 gs1 4;have r0:=Z0 gc1 0;have r1:=Z0 gc1 1;have r2:=Z0 gc1 2;have r3:=Z0 gc1 3;have r4:=Z0 gc1 4;simp only[List.getElem?_toArray,List.getElem?_cons_zero,List.getElem?_cons_succ] at q0 r0 q1 r1 q2 r2 q3 r3 q4 r4;rename_i Q K hK;refine hK _ _ ?_;clear hK;go_wp2_with fail;refine(Z59 [0,3] 2 0 rfl (by decide) v_m2 B _ _ (Qv.ext ((Ek.alloc _))) (Hr.ext ((Ek.alloc _))) (Z0V (l:=[0,3]) (by simp only[Z3,Z2];exact if_pos trivial) rfl)).mono ?_;rintro e w2 ⟨rfl,hE⟩;have D1:Ext w1 w2:=((Ext.rfl' w1).alloc _).trans hE;have gs2:=D1.get gs1;have gc2:=D1.get gc1;have D5:=Ek.trans D1;clear hE;have E4:=Z5 gc2;have hlu2:=Z5 gs2;clear hlt1 hlu1;clear q0 r0 q1 r1 q2 r2 q3 r3 q4 r4;have q0:=Z0 gs2 0;have q1:=Z0 gs2 1;have q2:=Z0 gs2 2;have q3:=Z0 gs2 3;have q4:=Z0 gs2 4;have r0:=Z0 gc2 0;have r1:=Z0 gc2 1;have r2:=Z0 gc2 2;have r3:=Z0 gc2 3;have r4:=Z0 gc2 4;simp only[List.getElem?_toArray,List.getElem?_cons_zero,List.getElem?_cons_succ] at q0 r0 q1 r1 q2 r2 q3 r3 q4 r4;rename_i Q K hK;refine hK _ _ ?_;clear hK;go_wp2_with fail;refine(Z59 [0,6] 2 2 rfl (by decide) v_m3 B _ _ (Qv.ext ((D5.alloc _))) (Hr.ext ((D5.alloc _))) (Z0V (l:=[0,6]) (by simp only[Z3,Z2];exact if_pos trivial) rfl)).mono ?_
 rintro e w3 ⟨rfl,hE⟩;have Ef:Ext w2 w3:=((Ext.rfl' w2).alloc _).trans hE;have gs3:=Ef.get gs2;have gc3:=Ef.get gc2;have Qf:=D5.trans Ef;clear hE;have Ss:=Z5 gc3;have hlu3:=Z5 gs3;clear E4 hlu2;clear q0 r0 q1 r1 q2 r2 q3 r3 q4 r4;have q0:=Z0 gs3 0;have q1:=Z0 gs3 1;have q2:=Z0 gs3 2;have q3:=Z0 gs3 3;have q4:=Z0 gs3 4;have r0:=Z0 gc3 0;have r1:=Z0 gc3 1;have r2:=Z0 gc3 2;have r3:=Z0 gc3 3;have r4:=Z0 gc3 4;simp only[List.getElem?_toArray,List.getElem?_cons_zero,List.getElem?_cons_succ] at q0 r0 q1 r1 q2 r2 q3 r3 q4 r4;rename_i Q K hK;refine hK _ _ ?_;clear hK;go_wp2_with fail;refine(Zc9 B _ _ (Qv.ext ((Qf.alloc _))) (Hr.ext ((Qf.alloc _))) (Z0V (l:=[0,2,3]) (by simp only[Z3,Z2];exact if_pos trivial) rfl)).mono ?_;rintro e w4 ⟨v9,rfl,hv9,hE⟩;have Et:Ext w3 w4:=((Ext.rfl' w3).alloc _).trans hE;have gs4:=Et.get gs3;have gc4:=Et.get gc3;have Wp:=Qf.trans Et;obtain⟨a9,c9,rfl,Td⟩:=hv9.rawAp;rw[v_ap.2.2];clear hE;have hlt4:=Z5 gc4;have hlu4:=Z5 gs4;clear Ss hlu3;clear q0 r0 q1 r1 q2 r2 q3 r3 q4 r4;have q0:=Z0 gs4 0;have q1:=Z0 gs4 1;have q2:=Z0 gs4 2;have q3:=Z0 gs4 3;have q4:=Z0 gs4 4;have r0:=Z0 gc4 0;have r1:=Z0 gc4 1;have r2:=Z0 gc4 2;have r3:=Z0 gc4 3;have r4:=Z0 gc4 4
 simp only[List.getElem?_toArray,List.getElem?_cons_zero,List.getElem?_cons_succ] at q0 r0 q1 r1 q2 r2 q3 r3 q4 r4;rename_i Q K hK;refine hK _ _ ?_;clear hK;go_wp2_with fail;refine(ZdC B _ (Qv.ext Wp) (Hr.ext Wp)).mono ?_;rintro e w5 ⟨v11,v12,rfl,hv11,Hx,hE⟩;have Q7:Ext w4 w5:=hE;have gs5:=Q7.get gs4;have gc5:=Q7.get gc4;have Qj:=Wp.trans Q7;obtain⟨a11,c11,rfl,hr11⟩:=hv11.rawL (by decide);obtain⟨a12,c12,rfl,hr12,hx12⟩:=Hx.rawI;clear hx12;clear hE;have hlt5:=Z5 gc5;have hlu5:=Z5 gs5;clear hlt4 hlu4;clear q0 r0 q1 r1 q2 r2 q3 r3 q4 r4;have q0:=Z0 gs5 0;have q1:=Z0 gs5 1;have q2:=Z0 gs5 2;have q3:=Z0 gs5 3;have q4:=Z0 gs5 4;have r0:=Z0 gc5 0;have r1:=Z0 gc5 1;have r2:=Z0 gc5 2;have r3:=Z0 gc5 3;have r4:=Z0 gc5 4;simp only[List.getElem?_toArray,List.getElem?_cons_zero,List.getElem?_cons_succ] at q0 r0 q1 r1 q2 r2 q3 r3 q4 r4;rename_i Q K hK;refine hK _ _ ?_;clear hK;go_wp2_with fail;refine(Z8I B _ (Qv.ext Qj) (Hr.ext Qj)).mono ?_;rintro e w6 ⟨rfl,hE⟩;have Cx:Ext w5 w6:=hE;have gs6:=Cx.get gs5;have gc6:=Cx.get gc5;have hc6:=Qj.trans Cx;clear hE;have hlt6:=Z5 gc6;have hlu6:=Z5 gs6;clear hlt5 hlu5;clear q0 r0 q1 r1 q2 r2 q3 r3 q4 r4;have q0:=Z0 gs6 0;have q1:=Z0 gs6 1;have q2:=Z0 gs6 2;have q3:=Z0 gs6 3;have q4:=Z0 gs6 4
 have r0:=Z0 gc6 0;have r1:=Z0 gc6 1;have r2:=Z0 gc6 2;have r3:=Z0 gc6 3;have r4:=Z0 gc6 4;simp only[List.getElem?_toArray,List.getElem?_cons_zero,List.getElem?_cons_succ] at q0 r0 q1 r1 q2 r2 q3 r3 q4 r4;rename_i Q K hK;refine hK _ _ ?_;clear hK;go_wp2_with fail;refine(ZdD D _ (P0.ext hc6)).mono ?_;rintro e w7 ⟨rfl,hE⟩;have U6:Ext w6 w7:=hE;have gs7:=U6.get gs6;have gc7:=U6.get gc6;have Wq:=hc6.trans U6;clear hE;have hlt7:=Z5 gc7;have hlu7:=Z5 gs7;clear hlt6 hlu6;clear q0 r0 q1 r1 q2 r2 q3 r3 q4 r4;have q0:=Z0 gs7 0;have q1:=Z0 gs7 1;have q2:=Z0 gs7 2;have q3:=Z0 gs7 3;have q4:=Z0 gs7 4;have r0:=Z0 gc7 0;have r1:=Z0 gc7 1;have r2:=Z0 gc7 2;have r3:=Z0 gc7 3;have r4:=Z0 gc7 4;simp only[List.getElem?_toArray,List.getElem?_cons_zero,List.getElem?_cons_succ] at q0 r0 q1 r1 q2 r2 q3 r3 q4 r4;rename_i Q K hK;refine hK _ _ ?_;clear hK;go_wp2_with fail;refine(ZaK 30 93 100 rfl v_mk1 D _ (P0.ext ((Wq.alloc _))) (Br.ext ((Wq.alloc _)))).mono ?_;rintro e w8 ⟨rfl,hE⟩;have U7:Ext w7 w8:=((Ext.rfl' w7).alloc _).trans hE;have gs8:=U7.get gs7;have gc8:=U7.get gc7;have Wr:=Wq.trans U7;have gp8:w8.heap[w7.heap.size]? =some (.cells #[.int .i64 93,.int .i64 102] 48):=hE.get (by simp only[Z3,Z2];exact if_pos trivial)
 clear hE;have P3:=Z5 gc8;have hlu8:=Z5 gs8;clear hlt7 hlu7;clear q0 r0 q1 r1 q2 r2 q3 r3 q4 r4;have q0:=Z0 gs8 0;have q1:=Z0 gs8 1;have q2:=Z0 gs8 2;have q3:=Z0 gs8 3;have q4:=Z0 gs8 4;have r0:=Z0 gc8 0;have r1:=Z0 gc8 1;have r2:=Z0 gc8 2;have r3:=Z0 gc8 3;have r4:=Z0 gc8 4;simp only[List.getElem?_toArray,List.getElem?_cons_zero,List.getElem?_cons_succ] at q0 r0 q1 r1 q2 r2 q3 r3 q4 r4;rename_i Q K hK;refine hK _ _ ?_;clear hK;go_wp2_with fail;refine(ZaK 25 73 80 rfl v_mk2 D _ (P0.ext ((Wr.alloc _))) (Br.ext ((Wr.alloc _)))).mono ?_;rintro e w9 ⟨rfl,hE⟩;have Ht:Ext w8 w9:=((Ext.rfl' w8).alloc _).trans hE;have gs9:=Ht.get gs8;have gc9:=Ht.get gc8;have Ws:=Wr.trans Ht;have gp9:w9.heap[w8.heap.size]? =some (.cells #[.int .i64 93,.int .i64 100] 48):=hE.get (by simp only[Z3,Z2];exact if_pos trivial);clear hE;have hlt9:=Z5 gc9;have hlu9:=Z5 gs9;clear P3 hlu8;clear q0 r0 q1 r1 q2 r2 q3 r3 q4 r4;have q0:=Z0 gs9 0;have q1:=Z0 gs9 1;have q2:=Z0 gs9 2;have q3:=Z0 gs9 3;have q4:=Z0 gs9 4;have r0:=Z0 gc9 0;have r1:=Z0 gc9 1;have r2:=Z0 gc9 2;have r3:=Z0 gc9 3;have r4:=Z0 gc9 4;simp only[List.getElem?_toArray,List.getElem?_cons_zero,List.getElem?_cons_succ] at q0 r0 q1 r1 q2 r2 q3 r3 q4 r4
 rename_i Q K hK;refine hK _ _ ?_;clear hK;go_wp2_with fail;refine(ZaL 4 1 rfl v_h1 D _ (P0.ext ((Ws.alloc _))) (Br.ext ((Ws.alloc _)))).mono ?_;rintro e w10 ⟨rfl,hE⟩;have Jg:Ext w9 w10:=((Ext.rfl' w9).alloc _).trans hE;have gs10:=Jg.get gs9;have gc10:=Jg.get gc9;have Lg:=Ws.trans Jg;have gp10:w10.heap[w9.heap.size]? =some (.cells #[.int .i64 73,.int .i64 80] 48):=hE.get (by simp only[Z3,Z2];exact if_pos trivial);clear hE;have U8:=Z5 gc10;have U9:=Z5 gs10;clear hlt9 hlu9;clear q0 r0 q1 r1 q2 r2 q3 r3 q4 r4;have q0:=Z0 gs10 0;have q1:=Z0 gs10 1;have q2:=Z0 gs10 2;have q3:=Z0 gs10 3;have q4:=Z0 gs10 4;have r0:=Z0 gc10 0;have r1:=Z0 gc10 1;have r2:=Z0 gc10 2;have r3:=Z0 gc10 3;have r4:=Z0 gc10 4;simp only[List.getElem?_toArray,List.getElem?_cons_zero,List.getElem?_cons_succ] at q0 r0 q1 r1 q2 r2 q3 r3 q4 r4;rename_i Q K hK;refine hK _ _ ?_;clear hK;go_wp2_with fail;refine(ZaL 3 0 rfl v_h2 D _ (P0.ext Lg) (Br.ext Lg)).mono ?_;rintro e w11 ⟨rfl,hE⟩;have Jh:Ext w10 w11:=hE;have gs11:=Jh.get gs10;have gc11:=Jh.get gc10;have Lh:=Lg.trans Jh;clear hE;have Ua:=Z5 gc11;have Ub:=Z5 gs11;clear U8 U9;clear q0 r0 q1 r1 q2 r2 q3 r3 q4 r4;have q0:=Z0 gs11 0;have q1:=Z0 gs11 1;have q2:=Z0 gs11 2;have q3:=Z0 gs11 3;have q4:=Z0 gs11 4
 have r0:=Z0 gc11 0;have r1:=Z0 gc11 1;have r2:=Z0 gc11 2;have r3:=Z0 gc11 3;have r4:=Z0 gc11 4;simp only[List.getElem?_toArray,List.getElem?_cons_zero,List.getElem?_cons_succ] at q0 r0 q1 r1 q2 r2 q3 r3 q4 r4;rename_i Q K hK;refine hK _ _ ?_;clear hK;go_wp2_with fail;refine(ZdE D _ (P0.ext Lh) (Br.ext Lh)).mono ?_;rintro e w12 ⟨rfl,hE⟩;have Ji:Ext w11 w12:=hE;have gs12:=Ji.get gs11;have gc12:=Ji.get gc11;have Li:=Lh.trans Ji;clear hE;have Uc:=Z5 gc12;have Ud:=Z5 gs12;clear Ua Ub;clear q0 r0 q1 r1 q2 r2 q3 r3 q4 r4;have q0:=Z0 gs12 0;have q1:=Z0 gs12 1;have q2:=Z0 gs12 2;have q3:=Z0 gs12 3;have q4:=Z0 gs12 4;have r0:=Z0 gc12 0;have r1:=Z0 gc12 1;have r2:=Z0 gc12 2;have r3:=Z0 gc12 3;have r4:=Z0 gc12 4;simp only[List.getElem?_toArray,List.getElem?_cons_zero,List.getElem?_cons_succ] at q0 r0 q1 r1 q2 r2 q3 r3 q4 r4;rename_i Q K hK;refine hK _ _ ?_;clear hK;go_wp2_with fail;refine(ZaM D _ (P0.ext Li) (Br.ext Li)).mono ?_;rintro e w13 ⟨rfl,hE⟩;have Jj:Ext w12 w13:=hE;have gs13:=Jj.get gs12;have gc13:=Jj.get gc12;have P4:=Li.trans Jj;clear hE;have hlt13:=Z5 gc13;have hlu13:=Z5 gs13;clear Uc Ud;clear q0 r0 q1 r1 q2 r2 q3 r3 q4 r4;have q0:=Z0 gs13 0;have q1:=Z0 gs13 1;have q2:=Z0 gs13 2;have q3:=Z0 gs13 3;have q4:=Z0 gs13 4
 have r0:=Z0 gc13 0;have r1:=Z0 gc13 1;have r2:=Z0 gc13 2;have r3:=Z0 gc13 3;have r4:=Z0 gc13 4;simp only[List.getElem?_toArray,List.getElem?_cons_zero,List.getElem?_cons_succ] at q0 r0 q1 r1 q2 r2 q3 r3 q4 r4;rename_i Q K hK;refine hK _ _ ?_;clear hK;have hsz13:=P4.size;have hDW:∀W,Ext w13 W->∀(j:Nat) u,(exS.flatMap rsC)[j]? =some u->W.cell? ((⟨D,0,none⟩:Addr).add j)=some u:=by
  intro W hW j u hu;rw[Z0c,Z0 (hW.get (P4.get hDe)),<-Array.getElem?_toList];exact hu
 go_wp2_with (
  at_builtin
  go_loud (refine wpList_append_own _ rfl _ _ _ rfl (w13.heap.size+1+1) 80 Tryz.t80 (.agg #[.int .i64 0,.int .i64 0,.int .i64 0,.int .i64 0,.int .i64 0]) 5 40 u68 i80 t80z t80s t80b rfl (by omega) (.slice (some ⟨w13.heap.size+1+1,0,none⟩) 0 0) 0 [] rfl (Zcd (by simp only[Z3,Z2];exact if_pos trivial) (Nat.le_refl _)) ⟨D,0,none⟩ 3 3 (exS.flatMap rsC) rfl rfl (hDW _ ((((Ext.rfl' w13).alloc _).alloc _).alloc _)) (by decide) (by simp[maxLen]) (by omega) (by simp only[Z2];omega) ?_)
  intro v' w14 Jk Dm _;obtain⟨g14,cp14,rfl,hg14,hg14'⟩:=World.ownsRow.form Jk (by omega);have hE14:Ext w13 w14:=Ext.grown ((((Ext.rfl' w13).alloc _).alloc _).alloc _) Dm (fun k hk=>by simp[Value.ownBlock] at hk<;>omega);have gp14:w14.heap[w13.heap.size]? =some (.cells #[.int .i64 38,.int .i64 48] 48):=Z0m Dm (fun e=>by simp[Value.ownBlock] at e<;>omega) (by simp only[Z3,Z2];rw[if_neg (by omega),if_neg (by omega),if_pos trivial]);have gk14:w14.heap[w13.heap.size+1]? =some (.cells #[.int .i64 2,.int .i64 4,.int .i64 1,.int .i64 2,.slice (some ⟨D,0,none⟩) 3 3] 70):=Z0m Dm (fun e=>by simp[Value.ownBlock] at e<;>omega) (by simp only[Z3,Z2];rw[if_neg (by omega),if_pos trivial]);clear Dm)
 refine(Z3P _ _ _).mono ?_;rintro e w15 ⟨rfl,Jl⟩;have hE15:=hE14.trans Jl;have gp15:=Jl.get gp14;have gk15:=Jl.get gk14;have P5:=Z00 Jk Jl;rename_i Q K hK;refine hK _ _ ?_;clear hK
 go_wp2_with (
  at_builtin
  go_loud (refine wpList_append_own _ rfl _ _ _ rfl (w13.heap.size+1+1) 80 Tryz.t80 (.agg #[.int .i64 0,.int .i64 0,.int .i64 0,.int .i64 0,.int .i64 0]) 5 40 u68 i80 t80z t80s t80b rfl (by omega) (.slice (some ⟨g14,0,none⟩) 3 cp14) 3 (exS.flatMap rsC) rfl (P5.alloc _) ⟨w15.heap.size,0,none⟩ 1 1 (rsC ⟨20,70,70,0,0⟩) rfl rfl ?_ (by decide) (by simp[maxLen]) (by omega) (by simp only[Z2];have:=Jl.size;omega) ?_)
  ·intro j u hu;rw[Z0c,Z0 (by rw[Z3,if_pos rfl]),<-Array.getElem?_toList];exact hu
  intro v' w16 P6 Dn _;obtain⟨g16,c16,cur,rfl,hg16,hh16,Ue⟩:∃g c cur,v'= .slice (some ⟨g,0,none⟩) (3+1) c/\w13.heap.size+1+1<=g/\w16.heap[g]? =some (.cells cur 80)/\cur.toList.take ((3+1)*5)=exS.flatMap rsC++rsC ⟨20,70,70,0,0⟩:=by
   obtain⟨_,⟨_,h⟩|⟨g,c,cur,h1,h2,h3,_,_,_,h4⟩⟩:=P6
   ·omega
   ·exact⟨g,c,cur,h1,h2,h3,h4⟩
  have hE16:Ext w13 w16:=Ext.grown (hE15.alloc _) Dn (fun k hk=>by simp[Value.ownBlock] at hk<;>omega);have gp16:w16.heap[w13.heap.size]? =some (.cells #[.int .i64 38,.int .i64 48] 48):=Z0m Dn (fun e=>by simp[Value.ownBlock] at e<;>omega) (((Ext.rfl' w15).alloc _).get gp15);have gk16:w16.heap[w13.heap.size+1]? =some (.cells #[.int .i64 2,.int .i64 4,.int .i64 1,.int .i64 2,.slice (some ⟨D,0,none⟩) 3 3] 70):=Z0m Dn (fun e=>by simp[Value.ownBlock] at e<;>omega) (((Ext.rfl' w15).alloc _).get gk15);clear Dn;have y0:=Z0 gk16 0;have y1:=Z0 gk16 1;have y2:=Z0 gk16 2;have y3:=Z0 gk16 3;have y4:=Z0 gk16 4;have z4:=Z8 gk16 4;have hlt16:=Z5 gk16;simp only[List.getElem?_toArray,List.getElem?_cons_zero,List.getElem?_cons_succ] at y0 y1 y2 y3 y4)
 have hEs:=hE16.setCell ⟨w13.heap.size+1,4,none⟩ (.slice (some ⟨g16,0,none⟩) 4 c16) (by simp only;omega);have I8:(w16.setCell ⟨w13.heap.size+1,4,none⟩ (.slice (some ⟨g16,0,none⟩) 4 c16)).heap[g16]? =some (.cells cur 80):=(set_ne (by simp only;omega) _).trans hh16;have gks:=Zb gk16 (i:=4) (.slice (some ⟨g16,0,none⟩) 4 c16);have gps:(w16.setCell ⟨w13.heap.size+1,4,none⟩ (.slice (some ⟨g16,0,none⟩) 4 c16)).heap[w13.heap.size]? =some (.cells #[.int .i64 38,.int .i64 48] 48):=(set_ne (by simp only;omega) _).trans gp16;replace gks:(w16.setCell ⟨w13.heap.size+1,4,none⟩ (.slice (some ⟨g16,0,none⟩) 4 c16)).heap[w13.heap.size+1]? =some (.cells #[.int .i64 2,.int .i64 4,.int .i64 1,.int .i64 2,.slice (some ⟨g16,0,none⟩) 4 c16] 70):=gks;generalize (w16.setCell ⟨w13.heap.size+1,4,none⟩ (.slice (some ⟨g16,0,none⟩) 4 c16))=ws at hEs I8 gks gps⊢;have Af:=P4.trans hEs;refine(Zca g16 c16 ws (Z6Y (L:=exS4) I8 (Ue.trans (by rfl))) (Br.ext Af) (X9.ext Af)).mono ?_;rintro e w17 ⟨v33,rfl,hv33,Jm⟩;obtain⟨a33,c33,rfl,hr33,hx33⟩:=hv33.rawI;have gk17:=Jm.get gks;have gp17:=Jm.get gps;have hg17:=Jm.get I8;have P7:=Af.trans Jm;clear hx33 y0 y1 y2 y3 y4 z4;have y0:=Z0 gk17 0;have y1:=Z0 gk17 1;have y2:=Z0 gk17 2;have y3:=Z0 gk17 3;have y4:=Z0 gk17 4
 simp only[List.getElem?_toArray,List.getElem?_cons_zero,List.getElem?_cons_succ] at y0 y1 y2 y3 y4;rename_i Q K hK;refine hK _ _ ?_;clear hK;go_wp2_with fail;refine(Zcb g16 c16 w17 (Z6Y (L:=exS4) hg17 (Ue.trans (by rfl))) (Br.ext P7) (X9.ext P7)).mono ?_;rintro e w18 ⟨v35,rfl,hv35,Lj⟩;obtain⟨a35,c35,rfl,hr35,hx35⟩:=hv35.rawI;have Uf:=hr33.ext Lj;have hE18:=hEs.trans (Jm.trans Lj);have Ug:=Jj.trans hE18;have Uh:=Ji.trans Ug;have E9:=Jh.trans Uh;have E2:=Jg.trans E9;have Qo:=Ht.trans E2;have Jz:=U7.trans Qo;have C8:=U6.trans Jz;have B8:=Cx.trans C8;have As:=Q7.trans B8;have hr9z:=Td.ext As;have Ui:=hr11.ext B8;have Uj:=hr12.ext B8;have gp8z:=Qo.get gp8;have gp9z:=E2.get gp9;have gp10z:=E9.get gp10;have gp18z:=Lj.get gp17;have hcz:=P7.trans Lj;clear hx35 y0 y1 y2 y3 y4 q0 q1 q2 q3 q4 r0 r1 r2 r3 r4 As B8 C8 Jz Qo E2 E9 Uh Ug D6 D1 Ef Et Q7 Cx U6 U7 Ht Jg Jh Ji Jj Ek D5 Qf Wp Qj hc6 Wq Wr Ws Lg Lh Li;rename_i Q K hK;refine hK _ _ ?_;clear hK;go_wp2_with fail;refine(Z25 a9 3 c9 (Z0Q 10 2 5 3 exL [0,2,3]) _ 3 3 exA _ v_ap.2.2 rfl (by decide) (hr9z.ext ((Ext.rfl' w18).alloc _)) (ZaN (by simp only[Z3,Z2];exact if_pos trivial) rfl)).mono ?_
 rintro e w19 ⟨rfl,hE⟩;have Uk:=((Ext.rfl' w18).alloc _).trans hE;rw[v_ap.1];clear hE;rename_i Q K hK;refine hK _ _ ?_;clear hK;go_wp2_with fail;refine(Z55 a11 2 c11 [[0,1,2],[3,4,5]] _ 2 2 [[0,1,2],[3,4,5]] _ rfl rfl (by decide) (Ui.ext (((Uk.alloc _).alloc _).alloc _)) (Zcc (b:=w19.heap.size) (by simp only[Z3,Z2];rw[if_neg (by omega),if_neg (by omega),if_pos trivial]) (by simp only[Z3,Z2];rw[if_neg (by omega),if_pos trivial]) (by simp only[Z3,Z2];exact if_pos trivial))).mono ?_;rintro e w20 ⟨rfl,hE⟩;have Ul:=Uk.trans (((((Ext.rfl' w19).alloc _).alloc _).alloc _).trans hE);rw[show decide (([[0,1,2],[3,4,5]]:List (List Int))=[[0,1,2],[3,4,5]])=true from by decide];clear hE;rename_i Q K hK;refine hK _ _ ?_;clear hK;go_wp2_with fail;refine(Z1d a12 1 c12 [6] _ 1 1 [6] _ rfl rfl (by decide) (Uj.ext (Ul.alloc _)) (Z0V (by simp only[Z3,Z2];exact if_pos trivial) rfl)).mono ?_;rintro e w21 ⟨rfl,hE⟩;have Gw:=Ul.trans (((Ext.rfl' w20).alloc _).trans hE);rw[show decide (([6]:List Int)=[6])=true from by decide];clear hE;rename_i Q K hK;refine hK _ _ ?_;clear hK;go_wp2_with fail;obtain⟨w1,Hk⟩:∃w1:World,w1=w21:=⟨_,rfl⟩;have gp8w:=Gw.get gp8z;have gp9w:=Gw.get gp9z;have gp10w:=Gw.get gp10z;have gp18w:=Gw.get gp18z
 have N7:=Uf.ext Gw;have N8:=hr35.ext Gw;have hcw:=hcz.trans Gw;rw[<-Hk] at gp8w gp9w gp10w gp18w N7 N8 hcw⊢;clear Hk;have z8:=Zc gp8w;have gz8:=Zet z8.1;have gy8:=Zet z8.2.1;clear z8;have z9:=Zc gp9w;have gz9:=Zet z9.1;have gy9:=Zet z9.2.1;clear z9;have z10:=Zc gp10w;have gz10:=Zet z10.1;have gy10:=Zet z10.2.1;clear z10;have z18:=Zc gp18w;have gz18:=Zet z18.1;have gy18:=Zet z18.2.1;clear z18;refine ZeG 49 (by kernel_rfl) ?_;refine ZeB [0] (by kernel_rfl) (by kernel_rfl) ?_;simp only[ZeD,List.getElem?_cons_succ,List.getElem?_cons_zero,List.cons_append,List.nil_append]
 repeat (go_big_quiet_step (fail))
 refine wpQuiet_nil ?_;refine ZeX 1 (f:=34) (args:= #[.int .i64 93,.int .i64 102]) (v:= .agg #[.int .i64 93,.int .i64 102]) (by kernel_rfl) rfl (by kernel_rfl) rfl (fun W=>by simp[go_sem,execOp,Act.eval]) (fun W _=>Z3P 93 102 W) ?_;go_simp;refine ZeB [2,3,4] (by kernel_rfl) (by kernel_rfl) ?_;simp only[ZeD,List.getElem?_cons_succ,List.getElem?_cons_zero,List.cons_append,List.nil_append]
 repeat (go_big_quiet_step (fail))
 refine wpQuiet_nil ?_;refine ZeX 5 (f:=34) (args:= #[.int .i64 93,.int .i64 100]) (v:= .agg #[.int .i64 93,.int .i64 100]) (by kernel_rfl) rfl (by kernel_rfl) rfl (fun W=>by simp[go_sem,execOp,Act.eval]) (fun W _=>Z3P 93 100 W) ?_;go_simp;refine ZeB [6,7,8,9] (by kernel_rfl) (by kernel_rfl) ?_;simp only[ZeD,List.getElem?_cons_succ,List.getElem?_cons_zero,List.cons_append,List.nil_append]
 repeat (go_big_quiet_step (fail))
 refine wpQuiet_nil ?_;refine ZeX 10 (f:=34) (args:= #[.int .i64 73,.int .i64 80]) (v:= .agg #[.int .i64 73,.int .i64 80]) (by kernel_rfl) rfl (by kernel_rfl) rfl (fun W=>by simp[go_sem,execOp,Act.eval]) (fun W _=>Z3P 73 80 W) ?_;go_simp;refine ZeB [11,12,13,14,15,16,17,18,19,20,21,22,23,24,25,26,27,28,29,30,31,32,33,34] (by kernel_rfl) (by kernel_rfl) ?_;simp only[ZeD,List.getElem?_cons_succ,List.getElem?_cons_zero,List.cons_append,List.nil_append]
 repeat (go_big_quiet_step (fail))
 refine wpQuiet_nil ?_;refine ZeX 35 (f:=34) (args:= #[.int .i64 38,.int .i64 48]) (v:= .agg #[.int .i64 38,.int .i64 48]) (by kernel_rfl) rfl (by kernel_rfl) rfl (fun W=>by simp[go_sem,execOp,Act.eval]) (fun W _=>Z3P 38 48 W) ?_;go_simp;refine ZeB [36,37,38,39] (by kernel_rfl) (by kernel_rfl) ?_;simp only[ZeD,List.getElem?_cons_succ,List.getElem?_cons_zero,List.cons_append,List.nil_append]
 repeat (go_big_quiet_step (fail))
 refine wpQuiet_nil ?_;refine Zfa 40 rfl (by kernel_rfl) rfl (fun W hW=>Zf3 ⟨.slice (some ⟨W.heap.size,0,none⟩) 2 2,W.alloc (.cells #[.int .i64 1,.int .i64 3] 3),by simp[go_sem,execOp,Act.eval],(Ext.rfl' W).alloc _,?_⟩);have m9:RawI (W.alloc (.cells #[.int .i64 1,.int .i64 3] 3)) (some ⟨W.heap.size,0,none⟩) [1,3]:=Z0V ((Z3 _ _ _).trans (if_pos rfl)) rfl;have e9:=hW.alloc (.cells #[.int .i64 1,.int .i64 3] 3);obtain⟨b9,P8⟩:∃b,b=W.heap.size:=⟨_,rfl⟩;rw[<-P8] at m9;rw[<-P8];generalize W.alloc _=W9 at m9 e9⊢;clear P8 hW;clear W;go_simp
 refine ZeX 41 (f:=58) (args:= #[.slice a33 2 c33,.slice (some ⟨b9,0,none⟩) 2 2]) (v:= .bool true) (by kernel_rfl) rfl (by kernel_rfl) rfl (fun W=>by simp[go_sem,execOp,Act.eval]) (fun W hW=>by
  have:=Z1d a33 2 c33 [1,3] (some ⟨b9,0,none⟩) 2 2 [1,3] W rfl rfl (by decide) (N7.ext (e9.trans hW)) (m9.ext hW)
  rwa [decide_eq_true rfl] at this) ?_
 go_simp;refine ZeB [42,43,44] (by kernel_rfl) (by kernel_rfl) ?_;simp only[ZeD,List.getElem?_cons_succ,List.getElem?_cons_zero,List.cons_append,List.nil_append]
 repeat (go_big_quiet_step (fail))
 refine wpQuiet_nil ?_;refine Zfa 45 rfl (by kernel_rfl) rfl (fun W hW=>Zf3 ⟨.slice (some ⟨W.heap.size,0,none⟩) 3 3,W.alloc (.cells #[.int .i64 0,.int .i64 1,.int .i64 2] 3),by simp[go_sem,execOp,Act.eval],(Ext.rfl' W).alloc _,?_⟩);clear m9;have m9:RawI (W.alloc (.cells #[.int .i64 0,.int .i64 1,.int .i64 2] 3)) (some ⟨W.heap.size,0,none⟩) [0,1,2]:=Z0V ((Z3 _ _ _).trans (if_pos rfl)) rfl;have e9:=(e9.trans hW).alloc (.cells #[.int .i64 0,.int .i64 1,.int .i64 2] 3);obtain⟨b9,P8⟩:∃b,b=W.heap.size:=⟨_,rfl⟩;rw[<-P8] at m9;rw[<-P8];generalize W.alloc _=W9 at m9 e9⊢;clear P8 hW;clear W;go_simp
 refine ZeX 46 (f:=58) (args:= #[.slice a35 3 c35,.slice (some ⟨b9,0,none⟩) 3 3]) (v:= .bool true) (by kernel_rfl) rfl (by kernel_rfl) rfl (fun W=>by simp[go_sem,execOp,Act.eval]) (fun W hW=>by
  have:=Z1d a35 3 c35 [0,1,2] (some ⟨b9,0,none⟩) 3 3 [0,1,2] W rfl rfl (by decide) (N8.ext (e9.trans hW)) (m9.ext hW)
  rwa [decide_eq_true rfl] at this) ?_
 go_simp;refine ZeB [47,48] (by kernel_rfl) (by kernel_rfl) ?_;simp only[ZeD,List.getElem?_cons_succ,List.getElem?_cons_zero,List.cons_append,List.nil_append]
 repeat (go_big_quiet_step (fail))
 refine wpQuiet_nil ?_;refine Zf6 (by kernel_rfl) (fun W hW=> ?_);have hEf:=G6.trans (hcw.trans (e9.trans hW));go_wp2;go_ret;exact⟨rfl,hEf⟩
end Go.Proofs.Tryq
namespace Go.Proofs.Tryq
open Go Go.Nk Go.RowKit
set_option linter.all false
end Go.Proofs.Tryq
namespace Go.Proofs.Tryq
set_option maxRecDepth 100000
set_option maxHeartbeats 2000000
open Go Go.Nk Go.RowKit
def Z1B(L:List Sf):Bool:=decide (20<L.length)||L.any fun x=>decide (100<x.nm.size)
theorem ZaR(a b c m:Int)(base:Option Addr)(n cap:Nat)(L:List Sf)(w:World)(A2:L.length=n)(hS:RawA w base L):
 Calls prog 21 #[.agg #[.int .i64 a,.int .i64 b,.int .i64 c,.int .i64 m,.slice base n cap]] w fun e w'=>e= .returned (.bool (Z1B L))/\Ext w w':=by
 by_cases Oc:20<L.length
 ·have hz:Z1B L=true:=by rw[Z1B,decide_eq_true Oc,Bool.true_or]
  have hn:(20:Int)<(n:Int):=by omega
  rw[hz];clear Oc hz;go_enter func21,ntmps21;go_wp2;go_ret;exact⟨rfl,(Ext.rfl' w).alloc _⟩
 ·have hn:(n:Int)<=20:=by omega
  have H:Hid (Z1B L=(L.drop 0).any fun x=>decide (100<x.nm.size)):=by show _=_;rw[Z1B,decide_eq_false Oc,Bool.false_or];rfl
  clear Oc;go_enter func21,ntmps21;go_wp2;go_loopw [3] (fun v wr=>∃i:Nat,i<=n/\v= .int .i64 i/\wr.heap[w.heap.size]? =some (.cells #[.int .i64 a,.int .i64 b,.int .i64 c,.int .i64 m,.slice base n cap] 26)/\Ext w wr/\Hid (Z1B L=(L.drop i).any fun x=>decide (100<x.nm.size))) (fun v _=>n - (intOf v).toNat)
  case atStart=>exact⟨0,Nat.zero_le _,rfl,by rw[Z3,if_pos rfl],(Ext.rfl' w).alloc _,H⟩
  case round=>
   obtain⟨i,hi,rfl,hr,hE,hH⟩:=hrel;clear H;have q4:=Z0 hr 4;simp only[List.getElem?_toArray,List.getElem?_cons_zero,List.getElem?_cons_succ] at q4;by_cases Ao:i=n
   ·subst Ao;have hz:Z1B L=false:=(by rw[hH.out,<-A2,List.drop_length];rfl);go_wp2;go_ret;exact⟨ZP (a:=false) hz.symm,hE⟩
   ·have A3:i<n:=(by omega);obtain⟨x,hx⟩:∃x,L[i]? =some x:=⟨_,List.getElem?_eq_getElem (by omega)⟩;obtain⟨b',off,rfl,hb,hs,Q4⟩:=(hS.ext hE) i x hx;have k0:=hs.1;have Ab:Hid (Z1B L=(decide (100<x.nm.size)||(L.drop (i+1)).any fun x=>decide (100<x.nm.size))):=(by show _=_;rw[hH.out,Z0b hx,List.any_cons]);clear hH hx;unfold maxLen at Q4;have F2:¬n<=i:=(by omega);by_cases h1:100<x.nm.size
    ·have hz:Z1B L=true:=(by rw[Ab.out,decide_eq_true h1,Bool.true_or]);have h1':(100:Int)<(x.nm.size:Int):=(by omega);clear Ab h1;go_wp2;go_ret;exact⟨ZP (a:=true) hz.symm,hE⟩
    ·have Ei:Hid (Z1B L=(L.drop (i+1)).any fun x=>decide (100<x.nm.size)):=(by show _=_;rw[Ab.out,decide_eq_false h1,Bool.false_or]);have h1':(x.nm.size:Int)<=100:=(by omega);clear Ab h1;go_wp2;exact⟨⟨i+1,by omega,by push_cast;rfl,hr,hE,Ei⟩,by simp[intOf];omega⟩
def Zfc(a b c m:Int)(L:List Sf):Bool:= !Z1B L&&(Zp a b c m L==0)
theorem Zfd(a b c m:Int)(base:Option Addr)(n cap:Nat)(L:List Sf)(w:World)(A2:L.length=n)(hS:RawA w base L):
 Calls prog 30 #[.agg #[.int .i64 a,.int .i64 b,.int .i64 c,.int .i64 m,.slice base n cap]] w fun e w'=>e= .returned (.bool (Zfc a b c m L))/\Ext w w':=by
 have Md:=fun W hW=>ZaR a b c m base n cap L W A2 (hS.ext hW)
 cases hg:Z1B L with
 |true=>
  have hf:Zfc a b c m L=false:=by simp[Zfc,hg]
  simp only[hg] at Md;rw[hf];go_enter func30,ntmps30
  go_wp2_with (first
   |(go_at_call 21;refine(Md _ ((Ext.rfl' w).alloc _)).mono ?_;rintro e w2 ⟨rfl,A6⟩
     have Ak:=((Ext.rfl' w).alloc _).trans A6))
  go_ret;exact⟨rfl,Ak⟩
 |false=>
  have hn:n<=20:=by
   rw[<-A2];simp only[Z1B,Bool.or_eq_false_iff,decide_eq_false_iff_not] at hg;omega
  have hf:Zfc a b c m L=(Zp a b c m L==0):=by simp[Zfc,hg]
  simp only[hg] at Md;have hc:=fun W hW=>Z1P a b c m base n cap L W A2 (by omega) (hS.ext hW)
  rw[hf];clear hg hf;go_enter func30,ntmps30
  go_wp2_with (first
   |(go_at_call 21;refine(Md _ ((Ext.rfl' w).alloc _)).mono ?_;rintro e w2 ⟨rfl,A6⟩
     have Ak:=((Ext.rfl' w).alloc _).trans A6;have hb:=A6.get (b:=w.heap.size) (o:= .cells #[.int .i64 a,.int .i64 b,.int .i64 c,.int .i64 m,.slice base n cap] 26) ((Z3 _ _ _).trans (if_pos rfl));have q0:=Z0 hb 0;have q1:=Z0 hb 1;have q2:=Z0 hb 2;have q3:=Z0 hb 3;have q4:=Z0 hb 4;simp only[List.getElem?_toArray,List.getElem?_cons_zero,List.getElem?_cons_succ] at q0 q1 q2 q3 q4)
   |(go_at_call 26;refine(hc _ Ak).mono ?_;rintro e w3 ⟨rfl,As⟩))
  go_ret;exact⟨rfl,Ak.trans As⟩
def Zfg(v:Int)(i:Nat):Bool:=bits BinOp.and IntKind.u16 (v / 2 ^ min i 16) 1==1
def ZeL(v:Int)(n:Nat):List Int:=((List.range n).filter (Zfg v)).map fun(i:Nat)=>(i:Int)
theorem ZeH(v:Int)(i:Nat):ZeL v (i+1)=ZeL v i++(if Zfg v i then[(i:Int)] else[]):=by
 unfold ZeL;rw[List.range_succ,List.filter_append,List.map_append];congr 1;cases h:Zfg v i<;>simp[h]
theorem ZeN(v:Int)(i:Nat):(ZeL v i).length<=i:=by
 have:=List.length_filter_le (Zfg v) (List.range i);simpa[ZeL] using this
theorem ZeT(a b c m v:Int)(base:Option Addr)(n cap:Nat)(w:World)(hn:n<=20)(hv:0<=v/\v<65536):
 Calls prog 31 #[.agg #[.int .i64 a,.int .i64 b,.int .i64 c,.int .i64 m,.slice base n cap],.int .u16 v] w fun e w'=>∃x,e= .returned x/\OwnI w.heap.size w' x (ZeL v n)/\Ext w w':=by
 have Bv:=(Ext.rfl' w).alloc (.cells #[.int .i64 a,.int .i64 b,.int .i64 c,.int .i64 m,.slice base n cap] 26);have Gc:(w.alloc (.cells #[.int .i64 a,.int .i64 b,.int .i64 c,.int .i64 m,.slice base n cap] 26)).heap[w.heap.size]? =some (.cells #[.int .i64 a,.int .i64 b,.int .i64 c,.int .i64 m,.slice base n cap] 26):=by rw[Z3,if_pos rfl]
 obtain⟨N,hN⟩:∃N,N=w.heap.size+1:=⟨_,rfl⟩;go_enter func31,ntmps31;go_wp2;go_loopw [5,6] (fun v5 v6 wr=>∃i:Nat,i<=n/\v6= .int .i64 i/\wr.heap[w.heap.size]? =some (.cells #[.int .i64 a,.int .i64 b,.int .i64 c,.int .i64 m,.slice base n cap] 26)/\OwnI N wr v5 (ZeL v i)/\Ext w wr) (fun _ v6 _=>n - (intOf v6).toNat)
 case atStart=>exact⟨0,Nat.zero_le _,rfl,Gc,World.ownsRow_nil _ _ _ _,Bv⟩
 case round=>
  rename_i v5 _;obtain⟨i,hi,rfl,hr,Ae,hE⟩:=hrel;have q4:=Z0 hr 4;simp only[List.getElem?_toArray,List.getElem?_cons_zero,List.getElem?_cons_succ] at q4;clear Bv Gc;by_cases h0:i=n
  ·subst h0;go_wp2;go_ret;exact⟨_,rfl,Ae.le (by omega),hE⟩
  ·have A3:i<n:=by omega
   have E4:(i:Int)<(n:Int):=by omega
   have Hq:=ZeN v i;have Ab:=ZeH v i;have hs:=hE.size;have D1:=Z5 hr;obtain⟨l,hl⟩:∃l,l=ZeL v i:=⟨_,rfl⟩;rw[<-hl] at Ae Hq Ab;clear hl;cases hb:Zfg v i with
   |true=>
    have Au:(bits BinOp.and IntKind.u16 (v / 2 ^ min i 16) 1==1)=true:=hb;rw[hb,if_pos rfl] at Ab;have H3:Hid (ZeL v (i+1)=l++[(i:Int)]):=Ab;clear Ab hb
    go_wp2_with (
     at_builtin
     generalize Value.int IntKind.u16 (bits BinOp.and IntKind.u16 (v / 2 ^ min i 16) 1)=q1;generalize Value.int IntKind.u16 (v / 2 ^ min i 16)=q2;refine wpList_append_own _ rfl _ _ _ rfl N 3 Tryz.t3 (.int .i64 0) 1 8 u27 i3 t3z t3s t3b rfl (by omega) _ _ _ rfl (Ae.alloc _) ⟨wr.heap.size,0,none⟩ 1 1 [.int .i64 i] rfl rfl (Z1N _ _ _) (by intro u hu;simp at hu;subst hu;rfl) (by(try simp[maxLen]);omega) (by(try simp);omega) (by(try simp only[Z2]);omega) ?_;intro v' w3 Ar Ac _;have Ak:Ext w w3:=(hE.alloc _).grown Ac (fun k hk=>by have:=(Ae.lt k hk).1;omega);have Ga:=(Ac.block w.heap.size (by(try simp only[Z2]);omega) (by intro e;have:=(Ae.lt _ e.symm).1;omega)).trans (((Z3 wr _ w.heap.size).trans (if_neg (by omega))).trans hr))
    go_roundw
    case rel=>exact⟨i+1,by omega,by push_cast;rfl,Ga,by rw[H3.out];simpa[OwnI] using Ar,Ak⟩
    case measure=>simp[intOf];omega
   |false=>
    have Au:(bits BinOp.and IntKind.u16 (v / 2 ^ min i 16) 1==1)=false:=hb;rw[hb] at Ab;have H3:Hid (ZeL v (i+1)=l):=(by rw[Hid,Ab];simp);clear Ab hb;go_wp2;go_roundw
    case rel=>exact⟨i+1,by omega,by push_cast;rfl,hr,by rw[H3.out];exact Ae,hE⟩
    case measure=>simp[intOf];omega
end Go.Proofs.Tryq
namespace Go.Proofs.Tryq
open Go Go.Nk Go.RowKit
set_option linter.all false
theorem ZeO(n:Nat):∀(l:List Int)(o:Option Int),(∀y,o=some y->∀x∈l,y<x)->l.Pairwise (·<·)->(∀x∈l,0<=x/\x<n)->Z1k n o l=0
 |[],_,_,_,_=>rfl
 |x::t,o,h1,h2,h3=>by
  rw[Z8y];have hx:=h3 x (List.mem_cons_self ..);rw[if_neg (by simp only[Decidable.not_not];omega)];obtain⟨h4,h5⟩:=List.pairwise_cons.1 h2;have ih:=ZeO n t (some x) (fun y e z hz=>by injection e with e;subst e;exact h4 z hz) h5 (fun z hz=>h3 z (List.mem_cons_of_mem _ hz));cases o with
  |none=>simpa using ih
  |some y=>
   have h6:=h1 y rfl x (List.mem_cons_self ..);have h7:decide (x<=y)=false:=by simp only[decide_eq_false_iff_not];omega
   simpa[h7] using ih
theorem ZeE{n:Nat}{l:List Int}(h2:l.Pairwise (·<·))(h3:∀x∈l,0<=x/\x<n):Zq n l=0:=
 ZeO n l none (fun y e=>by cases e) h2 h3
theorem ZeY(v:Int)(n:Nat):(ZeL v n).Pairwise (·<·)/\∀x∈ZeL v n,0<=x/\x<n:=by
 induction n with
 |zero=>exact⟨List.Pairwise.nil,fun x hx=>by cases hx⟩
 |succ n ih=>
  rw[ZeH];cases hb:Zfg v n with
  |false=>
   simp only[Bool.false_eq_true,if_false,List.append_nil];exact⟨ih.1,fun x hx=>by have:=ih.2 x hx;omega⟩
  |true=>
   simp only[if_true];refine⟨List.pairwise_append.2 ⟨ih.1,List.pairwise_singleton _ _,fun x hx y hy=> ?_⟩,fun x hx=> ?_⟩
   ·rw[List.mem_singleton.1 hy];exact(ih.2 x hx).2
   ·rcases List.mem_append.1 hx with h|h
    ·have:=ih.2 x h;omega
    ·rw[List.mem_singleton.1 h];omega
theorem Zew(v:Int)(n:Nat):Zq n (ZeL v n)=0:=ZeE (ZeY v n).1 (ZeY v n).2
theorem Zfe{a b c:Int}{L:List Sf}{u:Ap}:∀{l:List Int},u∈apA a b c L l↔∃(i j:Nat)(x y:Int),i<j/\l[i]? =some x/\l[j]? =some y/\u∈apP a b c L x y
 |[]=>⟨fun h=>(by cases h),fun⟨i,j,x,y,_,hx,_⟩=>by simp at hx⟩
 |p::t=>by
  rw[show apA a b c L (p::t)=apR a b c L p t++apA a b c L t from rfl,List.mem_append,Zfe (l:=t)];constructor
  ·rintro(h|⟨i,j,x,y,Ea,hx,hy,hu⟩)
   ·obtain⟨y,hy,hu⟩:=List.mem_flatMap.1 h;obtain⟨j,hj⟩:=List.mem_iff_getElem?.1 hy;exact⟨0,j+1,p,y,by omega,rfl,by simpa using hj,hu⟩
   ·exact⟨i+1,j+1,x,y,by omega,by simpa using hx,by simpa using hy,hu⟩
  ·rintro⟨i,j,x,y,Ea,hx,hy,hu⟩;obtain⟨j,rfl⟩:∃j',j=j'+1:=⟨j - 1,by omega⟩;rw[List.getElem?_cons_succ] at hy;cases i with
   |zero=>
    rw[List.getElem?_cons_zero] at hx;injection hx with e;subst e;exact .inl (List.mem_flatMap.2 ⟨y,List.mem_of_getElem? hy,hu⟩)
   |succ i=>
    rw[List.getElem?_cons_succ] at hx;exact .inr ⟨i,j,x,y,by omega,hx,hy,hu⟩
theorem Zeu{a b c m:Int}{L:List Sf}(hs:Zp a b c m L=0){l:List Int}(hz:Zq L.length l=0):Z1M a b c m L l=Zr (apA a b c L l):=if_pos (by rw[Zo,hs,hz];rfl)
set_option linter.all false
theorem mem_apP{a b c:Int}{L:List Sf}{u:Ap}{p q:Int}:u∈apP a b c L p q↔∃x y,L[p.toNat]? =some x/\L[q.toNat]? =some y/\∃k:Nat,k<3/\Z1m a b c x y k≠1/\u=⟨p,q,k,Z1m a b c x y k⟩:=by
 have key:∀k:Nat,u∈apE a b c L p q k↔∃x y,L[p.toNat]? =some x/\L[q.toNat]? =some y/\Z1m a b c x y k≠1/\u=⟨p,q,k,Z1m a b c x y k⟩:=by
  intro k;unfold apE;cases h1:L[p.toNat]? with
  |none=>simp
  |some x=>
   cases h2:L[q.toNat]? with
   |none=>simp
   |some y=>
    simp only[Option.some.injEq];split
    ·rename_i h;simp[h]
    ·rename_i h;simp[h]
 simp only[apP,List.mem_append,key];constructor
 ·rintro(⟨x,y,h1,h2,h3,h4⟩|⟨x,y,h1,h2,h3,h4⟩|⟨x,y,h1,h2,h3,h4⟩)
  ·exact⟨x,y,h1,h2,0,by omega,h3,h4⟩
  ·exact⟨x,y,h1,h2,1,by omega,h3,h4⟩
  ·exact⟨x,y,h1,h2,2,by omega,h3,h4⟩
 ·rintro⟨x,y,h1,h2,k,hk,h3,h4⟩;obtain rfl|rfl|rfl:k=0\/k=1\/k=2:=by omega
  ·exact .inl ⟨x,y,h1,h2,h3,h4⟩
  ·exact .inr (.inl ⟨x,y,h1,h2,h3,h4⟩)
  ·exact .inr (.inr ⟨x,y,h1,h2,h3,h4⟩)
def Two(L:List Sf)(l:List Int)(p q:Int)(x y:Sf):Prop:=p∈l/\q∈l/\p<q/\L[p.toNat]? =some x/\L[q.toNat]? =some y
theorem Zlz{a b c:Int}{L:List Sf}{l:List Int}(hl:l.Pairwise (·<·)){u:Ap}:u∈apA a b c L l↔∃p q x y,Two L l p q x y/\∃k:Nat,k<3/\Z1m a b c x y k≠1/\u=⟨p,q,k,Z1m a b c x y k⟩:=by
 rw[Zfe];constructor
 ·rintro⟨i,j,p,q,Ea,hp,hq,hu⟩;obtain⟨x,y,hx,hy,hk⟩:=mem_apP.1 hu;refine⟨p,q,x,y,⟨List.mem_of_getElem? hp,List.mem_of_getElem? hq,?_,hx,hy⟩,hk⟩;obtain⟨h1,e1⟩:=List.getElem?_eq_some_iff.1 hp;obtain⟨h2,e2⟩:=List.getElem?_eq_some_iff.1 hq;have:=List.pairwise_iff_getElem.1 hl i j h1 h2 Ea;rw[e1,e2] at this;exact this
 ·rintro⟨p,q,x,y,⟨hp,hq,Ys,hx,hy⟩,hk⟩;obtain⟨i,hi⟩:=List.mem_iff_getElem?.1 hp;obtain⟨j,hj⟩:=List.mem_iff_getElem?.1 hq;refine⟨i,j,p,q,?_,hi,hj,mem_apP.2 ⟨x,y,hx,hy,hk⟩⟩;obtain⟨h1,e1⟩:=List.getElem?_eq_some_iff.1 hi;obtain⟨h2,e2⟩:=List.getElem?_eq_some_iff.1 hj;rcases Nat.lt_trichotomy i j with h|h|h
  ·exact h
  ·subst h;rw[e1] at e2;omega
  ·have:=List.pairwise_iff_getElem.1 hl j i h2 h1 h;rw[e1,e2] at this;omega
theorem Zlp{a b c:Int}{L:List Sf}{l:List Int}(hl:l.Pairwise (·<·)):Zr (apA a b c L l)=1↔∀p q x y,Two L l p q x y->∀k:Nat,k<3->Z1m a b c x y k=1:=by
 rw[Zey];constructor
 ·intro h p q x y ht k hk;refine Classical.byContradiction fun hn=> ?_
  have:=(Zlz (a:=a) (b:=b) (c:=c) hl).2 ⟨p,q,x,y,ht,k,hk,hn,rfl⟩;rw[h] at this;cases this
 ·intro h;refine List.eq_nil_iff_forall_not_mem.2 fun u hu=> ?_
  obtain⟨p,q,x,y,ht,k,hk,hn,_⟩:=(Zlz hl).1 hu;exact hn (h p q x y ht k hk)
def InM(L:List Sf)(R:Nat->Nat->Int):Prop:=∀(i:Nat)(x:Sf),L[i]? =some x->∀k:Nat,k<3->(spA x k).1<=R i k/\R i k<=(spA x k).2
def Mtd(a b c:Int)(R:Nat->Nat->Int)(l:List Int):Prop:=∀k:Nat,k<3->∀i∈l,∀j∈l,R i.toNat k - R j.toNat k<=alw a b c k
structure StockOk(a b c m:Int)(L:List Sf):Prop where
 r:∀k,0<=alw a b c k/\alw a b c k<=9999
 m:2<=m/\m<=4
 len:L.length<=9
 ok:∀x∈L,∀k,0<=(spA x k).1/\(spA x k).1<=(spA x k).2/\(spA x k).2<=9999
theorem ZlF{a b c m:Int}{L:List Sf}(h:Zp a b c m L=0):StockOk a b c m L:=by
 have h1:Z2J a b c m=0/\Zj L=0:=by
  rw[Zp] at h;simp only[firstV] at h;split at h
  ·rename_i h0;split at h
   ·rename_i h1;exact⟨h0,h1⟩
   ·exact absurd h (by assumption)
  ·exact absurd h (by assumption)
 obtain⟨h1,h2⟩:=h1;unfold Z2J at h1;split at h1
 ·rename_i hr;simp only[okA,Bool.and_eq_true,decide_eq_true_eq] at hr;unfold Zj at h2;split at h2
  ·cases h2
  ·rename_i hl;refine⟨fun k=> ?_,by omega,by omega,fun x hx k=> ?_⟩
   ·match k with
    |0=>exact hr.1.1.1
    |1=>exact hr.1.1.2
    |k+2=>exact hr.1.2
   ·have:=shA_ok h2 x hx;simp only[Z8b,ZF,Bool.and_eq_true,decide_eq_true_eq] at this
    match k with
    |0=>exact this.1.1
    |1=>exact this.1.2
    |k+2=>exact this.2
 ·cases h1
section
variable {a b c m:Int} {L:List Sf} (hs:StockOk a b c m L) {l:List Int} (hl:l.Pairwise (·<·)) (Ao:∀i∈l,0<=i/\i<L.length) {R:Nat->Nat->Int} (hR:InM L R)
include hs hl Ao hR
theorem Zmt(h:Zr (apA a b c L l)=1):Mtd a b c R l:=by
 rw[Zlp hl] at h;intro k hk i hi j hj;have C7:=Ao i hi;have Vn:=Ao j hj;obtain⟨x,hx⟩:∃x,L[i.toNat]? =some x:=⟨_,List.getElem?_eq_getElem (by omega)⟩;obtain⟨y,hy⟩:∃y,L[j.toNat]? =some y:=⟨_,List.getElem?_eq_getElem (by omega)⟩;have r1:=hR _ x hx k hk;have r2:=hR _ y hy k hk;rcases Int.lt_trichotomy i j with Ea|Ea|Ea
 ·have:=h i j x y ⟨hi,hj,Ea,hx,hy⟩ k hk;unfold Z1m Z2Q at this;split at this
  ·omega
  ·split at this<;>cases this
 ·subst Ea;have:=(hs.r k).1;omega
 ·have:=h j i y x ⟨hj,hi,Ea,hy,hx⟩ k hk;unfold Z1m Z2Q at this;split at this
  ·omega
  ·split at this<;>cases this
end
set_option linter.all false
def lessL:List Int->List Int->Bool
 |[],[]=>false
 |[],_::_=>true
 |_::_,[]=>false
 |x::l,y::k=>if x=y then lessL l k else decide (x<y)
theorem ZgP(x:Int)(l k:List Int):lessL (x::l) (x::k)=lessL l k:=by rw[lessL,if_pos rfl]
theorem chooseR_iff:∀(s l:List Int),l∈chooseR s↔l.Sublist s
 |[],l=>by simp[chooseR]
 |x::t,l=>by
  have h:l∈chooseR (x::t)↔(l=[]\/(∃c∈chooseR t,x::c=l)\/l∈(chooseR t).tail):=by
   show l∈[]::((chooseR t).map (x::·)++(chooseR t).tail)↔_;rw[List.mem_cons,List.mem_append,List.mem_map]
  rw[h];constructor
  ·rintro(rfl|⟨c,hc,rfl⟩|h)
   ·exact List.nil_sublist _
   ·exact((chooseR_iff t c).1 hc).cons_cons x
   ·exact((chooseR_iff t l).1 (by rw[chooseR_head];exact List.mem_cons_of_mem _ h)).cons x
  ·intro h;cases h with
   |cons _ h=>
    have h2:=(chooseR_iff t l).2 h;rw[chooseR_head] at h2;rcases List.mem_cons.1 h2 with h2|h2
    ·exact .inl h2
    ·exact .inr (.inr h2)
   |cons_cons _ h=>exact .inr (.inl ⟨_,(chooseR_iff t _).2 h,rfl⟩)
theorem chooseR_less:∀(s:List Int),s.Pairwise (·<·)->(chooseR s).Pairwise fun l k=>lessL l k=true
 |[],_=>by simp[chooseR]
 |x::t,h=>by
  have ih:=chooseR_less t (List.Pairwise.of_cons h);have iht:(chooseR t).tail.Pairwise fun l k=>lessL l k=true:=ih.sublist (List.tail_sublist _)
  show([]::((chooseR t).map (x::·)++(chooseR t).tail)).Pairwise _;rw[List.pairwise_cons,List.pairwise_append,List.pairwise_map];refine⟨fun k hk=> ?_,ih.imp fun h=>by rw[ZgP];exact h,iht,fun l hl k hk=> ?_⟩
  ·cases k with
   |nil=>
    rcases List.mem_append.1 hk with h|h
    ·obtain⟨c,_,hc⟩:=List.mem_map.1 h;cases hc
    ·exact absurd rfl (chooseR_ne t _ h)
   |cons y k=>rfl
  ·obtain⟨c,_,rfl⟩:=List.mem_map.1 hl;have A8:=chooseR_ne t k hk;have hs:=(chooseR_iff t k).1 (by rw[chooseR_head];exact List.mem_cons_of_mem _ hk);cases k with
   |nil=>exact absurd rfl A8
   |cons y k=>
    have Bi:x<y:=List.rel_of_pairwise_cons h (hs.subset List.mem_cons_self);show lessL (x::c) (y::k)=true;rw[lessL,if_neg (by omega)];exact decide_eq_true Bi
theorem ZgS(a b c:Int)(L:List Sf)(m:Nat)(s:List Int)(h:s.Pairwise (·<·)):(ZgO a b c L m s).Pairwise fun l k=>lessL l k=true:=(chooseR_less s h).sublist (List.filter_sublist)
theorem ZgT{a b c:Int}{L:List Sf}{m:Nat}{s l:List Int}:l∈ZgO a b c L m s↔l.Sublist s/\l.length=m/\Zr (apA a b c L l)=1:=by
 rw[ZgO,List.mem_filter,chooseR_iff];simp
theorem ZgU(n:Nat):ZeS n (fun _=>false) 0=(List.range n).map fun(i:Nat)=>(i:Int):=by
 simp only[ZeS,List.range_eq_range',Nat.sub_zero,Bool.not_false];congr 1;exact List.filter_eq_self.2 fun _ _=>rfl
theorem ZgK(n:Nat):((List.range n).map fun(i:Nat)=>(i:Int)).Pairwise (·<·):=by
 rw[List.pairwise_map];exact(List.pairwise_lt_range (n:=n)).imp fun h=>by omega
set_option linter.all false
def fitA(r0 r1 r2 r3:Int)(S:List Rs):Bool:=Z20 r0 r1 r2 r3 S (upL S.length)
section
variable {r0 r1 r2 r3:Int} {S:List Rs} (hc:ZC r0 r1 r2 r3 S=0)
include hc
omit hc
theorem Zj9(n:Nat):(upL n).Pairwise (·<·):=ZgK n
theorem Zj5(n:Nat):(upL n).length=n:=by simp[upL]
theorem less_self:∀(l:List Int),lessL l l=false
 |[]=>rfl
 |x::l=>by rw[ZgP];exact less_self l
theorem Zjd{α:Type}[DecidableEq α]:∀{P Q:List α},P.Nodup->(∀x∈P,x∈Q)->P.length<=Q.length
 |[],_,_,_=>Nat.zero_le _
 |x::P,Q,hd,h=>by
  have hx:=h x (by simp);have R2:=List.nodup_cons.1 hd;have:=Zjd (Q:=Q.erase x) R2.2 fun y hy=>(List.mem_erase_of_ne (by rintro rfl;exact R2.1 hy)).2 (h y (by simp[hy]))
  rw[List.length_erase_of_mem hx] at this;have:=List.length_pos_of_mem hx;simp only[List.length_cons];omega
theorem eq_of_asc:∀{l k:List Int},l.Pairwise (·<·)->k.Pairwise (·<·)->(∀x,x∈l↔x∈k)->l=k
 |[],[],_,_,_=>rfl
 |[],y::k,_,_,h=>by have:=(h y).2 (by simp);simp at this
 |x::l,[],_,_,h=>by have:=(h x).1 (by simp);simp at this
 |x::l,y::k,hl,hk,h=>by
  have h1:=List.pairwise_cons.1 hl;have h2:=List.pairwise_cons.1 hk;have a1:=List.mem_cons.1 ((h x).1 (by simp));have a2:=List.mem_cons.1 ((h y).2 (by simp));obtain rfl:x=y:=by
   rcases a1 with a1|a1
   ·exact a1
   ·rcases a2 with a2|a2
    ·exact a2.symm
    ·have:=h2.1 x a1;have:=h1.1 y a2;omega
  congr 1
  refine eq_of_asc h1.2 h2.2 fun z=> ?_
  have hz:=h z;rw[List.mem_cons,List.mem_cons] at hz;constructor
  ·intro hm;have:=h1.1 z hm;rcases hz.1 (.inr hm) with e|e
   ·omega
   ·exact e
  ·intro hm;have:=h2.1 z hm;rcases hz.2 (.inr hm) with e|e
   ·omega
   ·exact e
end
structure Clsh(r0 r1 r2 r3:Int)(S:List Rs)(C T:List Int):Prop where
 ck:C∈chooseR (upL S.length)
 tk:T∈chooseR (upL S.length)
 fit:Z20 r0 r1 r2 r3 S T=true
 none_:fitA r0 r1 r2 r3 S=true->C=[]
 two:fitA r0 r1 r2 r3 S=false->C.length=2/\Z20 r0 r1 r2 r3 S C=false
 first:∀l,l∈chooseR (upL S.length)->l.length=2->Z20 r0 r1 r2 r3 S l=false->lessL l C=false
 most:∀l,l∈chooseR (upL S.length)->Z20 r0 r1 r2 r3 S l=true->l.length<T.length\/(l.length=T.length/\lessL l T=false)
section
variable {r0 r1 r2 r3:Int} {S:List Rs} {C T:List Int} (hc:ZC r0 r1 r2 r3 S=0) (h:Clsh r0 r1 r2 r3 S C T)
include h
include hc
end
set_option linter.all false
def Zmy(l k:List Int):Prop:=∀x∈l,x∉k
theorem ZlW{l k:List Int}:ZQ l k=false↔Zmy l k:=by
 unfold ZQ Zmy;rw[List.any_eq_false];simp
structure Pack(T:List (List Int))(taken:List Int)(P:List (List Int)):Prop where
 sub:P.Sublist T
 dis:P.Pairwise Zmy
 free:∀l∈P,Zmy l taken
theorem Zli{s:List Int}{t:List (List Int)}{taken:List Int}(h:ZQ s taken=false):shareL [] (s::t) taken=Z0q (s::shareL [] t (taken++s)) (shareL [] t taken):=by
 rw[shareL,if_neg (by rw[h];decide),if_pos (by simp),shareL_best]
theorem shareL_pack:∀(T:List (List Int))(taken:List Int),Pack T taken (shareL [] T taken)
 |[],taken=>⟨List.Sublist.refl _,List.Pairwise.nil,fun l hl=>by cases hl⟩
 |s::t,taken=>by
  have h1:=shareL_pack t taken;cases h:ZQ s taken with
  |true=>
   rw[shareL,if_pos h];exact⟨h1.sub.cons s,h1.dis,h1.free⟩
  |false=>
   have h2:=shareL_pack t (taken++s);rw[Zli h,Z0q];split
   ·exact⟨h1.sub.cons s,h1.dis,h1.free⟩
   ·refine⟨h2.sub.cons_cons s,List.pairwise_cons.2 ⟨fun l hl x hx P9=>h2.free l hl x P9 (List.mem_append_right _ hx),h2.dis⟩,fun l hl=> ?_⟩;rcases List.mem_cons.1 hl with rfl|hl
    ·exact ZlW.1 h
    ·exact fun x hx ht=>h2.free l hl x hx (List.mem_append_left _ ht)
theorem Pack.tail{s:List Int}{t P:List (List Int)}{taken:List Int}(h:Pack (s::t) taken (s::P)):ZQ s taken=false/\Pack t (taken++s) P:=by
 have h1:=List.pairwise_cons.1 h.dis;refine⟨ZlW.2 (h.free s (by simp)),⟨?_,h1.2,fun l hl x hx hm=> ?_⟩⟩
 ·have:=h.sub;cases this with
  |cons _ h=>exact(List.sublist_cons_self s P).trans h
  |cons_cons _ h=>exact h
 ·rcases List.mem_append.1 hm with hm|hm
  ·exact h.free l (by simp[hl]) x hx hm
  ·exact h1.1 l hl x hm hx
theorem shareL_most:∀(T:List (List Int))(taken:List Int)(P:List (List Int)),Pack T taken P->P.length<=(shareL [] T taken).length
 |[],taken,P,h=>by
  have:=h.sub;rw[List.sublist_nil.1 this];simp
 |s::t,taken,P,h=>by
  have key:(shareL [] t taken).length<=(shareL [] (s::t) taken).length:=by
   cases hc:ZQ s taken with
   |true=>rw[shareL,if_pos hc];exact Nat.le_refl _
   |false=>rw[Zli hc,Z0q];split<;>omega
  have Cb:=h.sub;cases Cb with
  |cons _ hs=>exact Nat.le_trans (shareL_most t taken P ⟨hs,h.dis,h.free⟩) key
  |cons_cons _ hs=>
   rename_i P';obtain⟨hc,h2⟩:=h.tail;have:=shareL_most t _ _ h2;rw[Zli hc,Z0q];split
   ·rename_i A3;simp only[List.length_cons] at A3⊢;omega
   ·simp only[List.length_cons];omega
def LeL:List (List Int)->List (List Int)->Prop
 |l::R,k::P=>(l=k/\LeL R P)\/lessL l k=true
 |_,_=>True
theorem shareL_least:∀(T:List (List Int))(taken:List Int)(P:List (List Int)),T.Pairwise (fun l k=>lessL l k=true)->Pack T taken P->P.length=(shareL [] T taken).length->LeL (shareL [] T taken) P
 |[],taken,P,_,_,_=>by unfold shareL LeL;trivial
 |s::t,taken,P,hT,h,hl=>by
  have H6:=List.pairwise_cons.1 hT
  have Cj:∀(hs:P.Sublist t),(shareL [] (s::t) taken=shareL [] t taken->LeL (shareL [] (s::t) taken) P):=fun hs e=>by
   rw[e] at hl⊢;exact shareL_least t taken P H6.2 ⟨hs,h.dis,h.free⟩ hl
  cases hc:ZQ s taken with
  |true=>
   have e:shareL [] (s::t) taken=shareL [] t taken:=by rw[shareL,if_pos hc]
   have Cb:=h.sub;cases Cb with
   |cons _ hs=>exact Cj hs e
   |cons_cons _ hs=>have:=h.tail.1;rw[hc] at this;cases this
  |false=>
   by_cases hb:(s::shareL [] t (taken++s)).length<(shareL [] t taken).length
   ·have e:shareL [] (s::t) taken=shareL [] t taken:=(by rw[Zli hc,Z0q,if_pos hb]);have Cb:=h.sub;cases Cb with
    |cons _ hs=>exact Cj hs e
    |cons_cons _ hs=>
     have:=shareL_most t _ _ h.tail.2;rw[e] at hl;simp only[List.length_cons] at hl hb;omega
   ·have e:shareL [] (s::t) taken=s::shareL [] t (taken++s):=(by rw[Zli hc,Z0q,if_neg hb]);rw[e] at hl⊢;have Cb:=h.sub;cases Cb with
    |cons _ hs=>
     cases P with
     |nil=>trivial
     |cons k P=>exact .inr (H6.1 k (hs.subset List.mem_cons_self))
    |cons_cons _ hs=>exact .inl ⟨rfl,shareL_least t _ _ H6.2 h.tail.2 (by simpa using hl)⟩
set_option linter.all false
theorem Zhx{w:World}{bl:Option Addr}{S:List Int}(h:RawI w bl S)(h0:S≠[]):∃b o,bl=some ⟨b,o,none⟩/\b<w.heap.size/\∀j u,(S.map (Value.int .i64))[j]? =some u->w.cell? ((⟨b,o,none⟩:Addr).add j)=some u:=by
 obtain⟨x,hx⟩:∃x,S[0]? =some x:=by
  cases S with
  |nil=>exact absurd rfl h0
  |cons x t=>exact⟨x,rfl⟩
 obtain⟨b,o,rfl,hb,_⟩:=h 0 x hx;refine⟨b,o,rfl,hb,fun j u hj=> ?_⟩;rw[List.getElem?_map] at hj;obtain⟨y,hy,rfl⟩:=Option.map_eq_some_iff.1 hj;obtain⟨b',o',e,_,hc⟩:=h j y hy;obtain⟨rfl,rfl⟩:b=b'/\o=o':=by simpa using e
 have e2:(⟨b,o,none⟩:Addr).add j=⟨b,o+j,none⟩:=by unfold Addr.add;split<;>simp_all
 rw[e2];exact hc
theorem Zhm{o:Oper}{a:Act}{w:World}{K:Act->World->Prop}{Q:Exit->Act->World->Prop}(s x:Operand)(ho:o.op= .call {callee:= .builtin .append,args:= #[s,x],argTypes:= #[27,27]})
 (base:Nat)(v:Value)(T:List Int)(hs:a.eval s=v)(Ae:OwnI base w v T)(bl:Option Addr)(c:Nat)(S:List Int)(hx:a.eval x= .slice bl S.length c)(Cg:bl=none->c=0)(hS:RawI w bl S)
 (hb:T.length+S.length<=1000000)(A4:base<=w.heap.size)(h:∀v' w',OwnI base w' v' (T++S)->w.grownBy w' v.ownBlock->K (a.put o.dst v') w'):o.wp prog a w K Q:=by
 cases bl with
 |none=>
  have Hr:S=[]:=by
   cases S with
   |nil=>rfl
   |cons x t=>
    obtain⟨b,o,e,_⟩:=hS 0 x rfl;cases e
  subst Hr;obtain rfl:=Cg rfl;have Ad:=run_append_owned_none (P:=prog) (w:=w) base 27 o.type 3 Tryz.t3 1 u27 i3 v T.length (T.map (Value.int .i64)) Ae;have hx:a.eval x= .slice none 0 0:=hx;unfold Oper.wp;simp[execOp,ho,resolve,invoke,builtin,hs,hx,Ad,Result.andThen];exact h v w (by rw[List.append_nil];exact Ae) ⟨rfl,rfl,rfl,Nat.le_refl _,fun b hb _=>rfl⟩
 |some ad=>
  have hn:∀j u,(S.map (Value.int .i64))[j]? =some u->w.cell? (ad.add j)=some u:=by
   by_cases h0:S=[]
   ·subst h0;intro j u hj;simp at hj
   ·obtain⟨b,o,e,_,hc⟩:=Zhx hS h0;cases e;exact hc
  refine wp_append_own w s x 27 ho base 3 Tryz.t3 (.int .i64 0) 1 8 u27 i3 t3z t3s t3b rfl (by omega) v T.length (T.map (Value.int .i64)) hs Ae ad S.length c (S.map (Value.int .i64)) hx (by simp) hn (by intro u hu;obtain⟨x,_,rfl⟩:=List.mem_map.1 hu;rfl) (by simp only[maxLen];omega) (by omega) A4 ?_;intro v' w' h1 h2 _;refine h v' w' ?_ h2;show w'.ownsRow base 3 1 v' (T++S).length ((T++S).map (Value.int .i64));rw[List.map_append,List.length_append];exact h1
set_option linter.all false
theorem Zhj(bl:Option Addr)(k cl:Nat)(l:List Int)(x:Int)(w:World)(hk:l.length=k)(hb:k<=1000000)(hl:RawI w bl l):
 Calls prog 39 #[.slice bl k cl,.int .i64 x] w fun e w'=>e= .returned (.bool (decide (x∈l)))/\Ext w w':=by
 have H:Hid (decide (x∈l)=decide (x∈l.drop 0)):=rfl;replace hk:Hid (l.length=k):=hk;have Ck:Hid (RawI w bl l):=hl;clear hl;go_enter func39,ntmps39;go_wp2;go_loopw [5] (fun v wr=>∃i:Nat,i<=k/\v= .int .i64 i/\Ext w wr/\Hid (decide (x∈l)=decide (x∈l.drop i))) (fun v _=>k - (intOf v).toNat)
 case atStart=>exact⟨0,Nat.zero_le _,rfl,Ext.rfl' w,H⟩
 case round=>
  clear H;obtain⟨i,hi,rfl,hE,HP⟩:=hrel;by_cases Qc:i=k
  ·have HR:Hid (decide (x∈l)=false):=by show _=_;rw[HP.out,Qc,<-hk.out,List.drop_length];simp
   subst Qc;clear HP;go_wp2;go_ret;exact⟨ZP HR.out.symm,hE⟩
  ·have A3:i<k:=by omega
   have E4:(i:Int)<(k:Int):=by omega
   obtain⟨y,hy⟩:∃y,l[i]? =some y:=⟨_,List.getElem?_eq_getElem (by have:=hk.out;omega)⟩;obtain⟨b,o,rfl,B4,hc⟩:=(Ck.out.ext hE) i y hy;by_cases Bi:y=x
   ·have HR:Hid (decide (x∈l)=true):=decide_eq_true (Bi▸List.mem_of_getElem? hy);subst Bi;clear Ck hy HP;go_wp2;go_ret;exact⟨ZP HR.out.symm,hE⟩
   ·have HN:Hid (decide (x∈l)=decide (x∈l.drop (i+1))):=by
     show _=_;rw[HP.out,Z0b hy,Bool.eq_iff_iff];simp[Ne.symm Bi]
    clear hy HP;go_wp2;exact⟨⟨i+1,by omega,by push_cast;rfl,hE,HN⟩,by simp[intOf];omega⟩
set_option linter.all false
theorem OwnI.raw2{b:Nat}{w:World}{v:Value}{l:List Int}(h:OwnI b w v l):∃ao cp,v= .slice ao l.length cp/\(ao=none->cp=0)/\l.length<=cp/\RawI w ao l:=by
 rcases h.2 with⟨rfl,h0⟩|⟨g,cp,cu,rfl,_,_,h1,_⟩
 ·have:l=[]:=List.length_eq_zero_iff.1 h0;subst this;exact⟨none,0,rfl,fun _=>rfl,Nat.le_refl _,fun i x hx=>by simp at hx⟩
 ·exact⟨_,cp,rfl,(fun h=>nomatch h),h1,OwnI.raw h⟩
theorem OwnI.one{b:Nat}{w:World}{v:Value}{l:List Int}(h:OwnI b w v l):v.oneCell'=true:=by
 obtain⟨ao,cp,rfl,_⟩:=h.raw2;rfl
theorem ZhP{o:Oper}{a:Act}{w:World}{K:Act->World->Prop}{Q:Exit->Act->World->Prop}(s x:Operand)(ho:o.op= .call {callee:= .builtin .append,args:= #[s,x],argTypes:= #[57,57]})
 (base:Nat)(v:Value)(S:List (List Int))(hs:a.eval s=v)(Ae:Shr base w v S)(b:Nat)(u:Value)(l:List Int)(hx:a.eval x= .slice (some ⟨b,0,none⟩) 1 1)(hc:w.cell? ⟨b,0,none⟩=some u)(hu:OwnI base w u l)
 (hb:S.length<=1000000)(A4:base<=w.heap.size)
 (h:∀g cap w',Shr base w' (.slice (some ⟨g,0,none⟩) (S.length+1) cap) (S++[l])->w.grownBy w' v.ownBlock->(v.ownBlock=some g\/g=w.heap.size)->g<w'.heap.size->K (a.put o.dst (.slice (some ⟨g,0,none⟩) (S.length+1) cap)) w'):o.wp prog a w K Q:=by
 obtain⟨h0,vs,h1,h2⟩:=Ae;have hl:=h2.length;refine wp_append_lies w s x 57 ho base 27 Tryz.t27 (.slice none 0 0) 1 24 u57 i27 t27z t27s t27b rfl (by omega) v vs.length vs hs h1 ⟨b,0,none⟩ 1 1 [u] hx rfl ?_ (by intro z hz;rw[List.mem_singleton.1 hz];exact hu.one) (by omega) (by simp only[maxLen];omega) (by omega) A4 _ rfl ?_
 ·intro j z hz
  match j,hz with
  |0,hz=>
   obtain rfl:=Option.some.inj hz;rw[Zh7];exact hc
 ·intro g cap w' k1 k2 k3 k4;rw[hl] at k1;rw[hl];refine h g cap w' ⟨fun e=>by simp at e,vs++[u],?_,Each.append (h2.mono fun u s hu=>World.ownsRow.kept hu k2 (Z4i hu h1 (by decide))) ⟨World.ownsRow.kept hu k2 (Z4i hu h1 (by decide)),trivial⟩⟩ k2 k3 k4;rw[List.length_append,hl];exact k1
set_option linter.all false
theorem Zhw(w:World)(v:Value)(t:TypeId):(w.alloc (.cells #[v] t)).cell? ⟨w.heap.size,0,none⟩=some v/\True:=by
 have h:(w.alloc (.cells #[v] t)).heap[w.heap.size]? =some (.cells #[v] t):=by rw[Z3,if_pos rfl]
 exact⟨Z0 h 0,trivial⟩
set_option linter.all false
set_option linter.all false
set_option linter.all false
theorem Zhq(a b c m:Int)(L:List Sf):Zo a b c m L []=Zp a b c m L:=by
 rw[Zo,firstV];split
 ·rename_i h;rw[h];rfl
 ·rfl
set_option linter.all false
structure SetOk(a b c:Int)(m:Nat)(L:List Sf)(out:Int->Prop)(l:List Int):Prop where
 asc:l.Pairwise (·<·)
 mem:∀i∈l,0<=i/\i<L.length/\¬out i
 len:l.length=m
 yes:Zr (apA a b c L l)=1
theorem ZlV{l s:List Int}(hl:l.Pairwise (·<·))(hs:s.Pairwise (·<·))(h:∀i∈l,i∈s):l.Sublist s:=by
 have e:l=s.filter fun x=>decide (x∈l):=eq_of_asc hl (hs.sublist List.filter_sublist) fun x=>by
  rw[List.mem_filter,decide_eq_true_eq];exact⟨fun hx=>⟨h x hx,hx⟩,fun hx=>hx.2⟩
 rw[e];exact List.filter_sublist
section
variable {a b c:Int} {m:Nat} {L:List Sf} {out:Int->Prop}
theorem Zlr{s:List Int}(hs:s.Pairwise (·<·))(hm:∀i,i∈s↔0<=i/\i<L.length/\¬out i){l:List Int}:l∈ZgO a b c L m s↔SetOk a b c m L out l:=by
 rw[ZgT];constructor
 ·rintro⟨h1,h2,h3⟩;exact⟨hs.sublist h1,fun i hi=>(hm i).1 (h1.subset hi),h2,h3⟩
 ·rintro⟨h1,h2,h3,h4⟩;exact⟨ZlV h1 hs fun i hi=>(hm i).2 (h2 i hi),h3,h4⟩
theorem ZlI{l:List Int}(h:l.Pairwise (·<·)):l.Nodup:=h.imp fun{a b} Ci e=>by omega
variable {a' b' c':Int} {L':List Sf} {out':Int->Prop}
end
end Go.Proofs.Tryq
