import Derived.Test.YtedkbdkbbnemlaaGreatDoorNk28
set_option linter.all false
namespace Go.Proofs.Tryq
set_option maxRecDepth 100000
set_option maxHeartbeats 8000000
open Go Go.Nk Go.RowKit
theorem u68:prog.underlying 68=some (.slice 80):=(underlying_eq 68).trans Tryz.underlying68
theorem i80:prog.info? 80=some Tryz.t80:=by kernel_rfl
theorem t80z:Tryz.t80.zero=some (.agg #[.int .i64 0,.int .i64 0,.int .i64 0,.int .i64 0,.int .i64 0]):=by kernel_rfl
theorem t80s:Tryz.t80.size=5:=by kernel_rfl
theorem t80b:Tryz.t80.bytes=40:=by kernel_rfl
theorem ZaN{w:World}{b:Nat}{A:List Ap}{C:Array Value}(h:w.heap[b]? =some (.cells C 46))(hC:C.toList=A.flatMap apC):RawAp w (some ⟨b,0,none⟩) A:=by
 have key:∀(A:List Ap)(i j:Nat)(x:Ap),A[i]? =some x->j<4->(A.flatMap apC)[i*4+j]? =(apC x)[j]? :=by
  intro A
  induction A with
  |nil=>intro i j x h;simp at h
  |cons y A ih=>
   intro i j x hx hj;rw[List.flatMap_cons];have hl:(apC y).length=4:=rfl;cases i with
   |zero=>
    simp at hx;subst hx;rw[List.getElem?_append_left (by omega)];simp
   |succ i=>
    rw[List.getElem?_append_right (by omega),hl,show(i+1)*4+j - 4=i*4+j by omega];exact ih i j x (by simpa using hx) hj
 intro i x hx;have hc:∀j,j<4->w.cell? ⟨b,0+i*4+j,none⟩=(apC x)[j]? :=by
  intro j hj;rw[Z0 h,Nat.zero_add,<-Array.getElem?_toList,hC,key A i j x hx hj]
 exact⟨b,0,rfl,Z5 h,hc 0 (by omega),hc 1 (by omega),hc 2 (by omega),hc 3 (by omega)⟩
theorem Zcc{w:World}{b:Nat}{x0 x1 x2 y0 y1 y2:Int}(h0:w.heap[b]? =some (.cells #[.int .i64 x0,.int .i64 x1,.int .i64 x2] 3))(h1:w.heap[b+1]? =some (.cells #[.int .i64 y0,.int .i64 y1,.int .i64 y2] 3))
 (h2:w.heap[b+1+1]? =some (.cells #[.slice (some ⟨b,0,none⟩) 3 3,.slice (some ⟨b+1,0,none⟩) 3 3] 27)):RawL w (some ⟨b+1+1,0,none⟩) [[x0,x1,x2],[y0,y1,y2]]:=by
 intro i l hl
 match i,hl with
 |0,hl=>
  obtain rfl:=Option.some.inj hl;exact⟨b+1+1,0,_,3,rfl,Z5 h2,by rw[Z0 h2];rfl,by simp,Z0V h0 rfl⟩
 |1,hl=>
  obtain rfl:=Option.some.inj hl;exact⟨b+1+1,0,_,3,rfl,Z5 h2,by rw[Z0 h2];rfl,by simp,Z0V h1 rfl⟩
theorem Zcd{w:World}{b base:Nat}(h:w.heap[b]? =some (.cells #[] 80))(hb:base<=b):w.ownsRow base 80 5 (.slice (some ⟨b,0,none⟩) 0 0) 0 []:=⟨rfl,.inr ⟨b,0,#[],rfl,hb,h,Nat.le_refl _,by simp[maxLen],rfl,rfl⟩⟩
theorem OwnAp.rawAp{b:Nat}{w:World}{v:Value}{A:List Ap}(h:OwnAp b w v A):∃ao cp,v= .slice ao A.length cp/\RawAp w ao A:=by
 by_cases h0:A=[]
 ·subst h0;rcases h.2 with⟨rfl,_⟩|⟨g,cp,_,rfl,_⟩
  ·exact⟨none,0,rfl,fun i x hx=>by simp at hx⟩
  ·exact⟨_,cp,rfl,fun i x hx=>by simp at hx⟩
 ·have hp:0<A.length:=List.length_pos_iff.2 h0;obtain⟨g,cp,rfl,_,hg⟩:=World.ownsRow.form h hp;refine⟨_,cp,rfl,fun i x hx=> ?_⟩;have key:∀(A:List Ap)(i j:Nat)(x:Ap),A[i]? =some x->j<4->(A.flatMap apC)[i*4+j]? =(apC x)[j]? :=by
   intro A
   induction A with
   |nil=>intro i j x h;simp at h
   |cons y A ih=>
    intro i j x hx hj;rw[List.flatMap_cons];have hl:(apC y).length=4:=rfl;cases i with
    |zero=>
     simp at hx;subst hx;rw[List.getElem?_append_left (by omega)];simp
    |succ i=>
     rw[List.getElem?_append_right (by omega),hl,show(i+1)*4+j - 4=i*4+j by omega];exact ih i j x (by simpa using hx) hj
  have hc:∀j u,j<4->(apC x)[j]? =some u->w.cell? ⟨g,0+i*4+j,none⟩=some u:=by
   intro j u hj hu;have h2:=h.cells (g:=g) rfl (i*4+j) u (by rw[key A i j x hx hj];exact hu);rw[Z0c] at h2;rw[Nat.zero_add];exact h2
  exact⟨g,0,rfl,hg,hc 0 _ (by omega) rfl,hc 1 _ (by omega) rfl,hc 2 _ (by omega) rfl,hc 3 _ (by omega) rfl⟩
theorem Zce(w:World)(hM:Meas w)(D7:Most w)(hd:Deb w):Calls prog 22 #[] w fun e w'=>e= .returned (.bool true)/\Ext w w':=by
 go_enter func22,ntmps22;go_wp2_with fail;refine(Z6U _).mono ?_;rintro e wA ⟨B,rfl,hBe,hEA⟩;rename_i Q K hK;refine hK _ _ ?_;clear hK;go_wp2_with fail;refine(Zar _).mono ?_;rintro e w0 ⟨D,rfl,hDe,hEB⟩;have G5:=hEA.trans hEB;have Hq:=ZdF (hEB.get hBe);have Ol:RawS w0 (some ⟨D,0,none⟩) exS:=Z6Y hDe rfl;have Q2:=hM.ext G5;have Br:=D7.ext G5;have Vt:=hd.ext G5;have Bf:=Ext.rfl' w0;rename_i Q K hK;refine hK _ _ ?_;clear hK;go_wp2_with fail;refine(Z59 [0,1,2] 3 1 rfl (by decide) v_m1 B _ _ (Q2.ext ((((Bf.alloc _).alloc _).alloc _))) (Hq.ext ((((Bf.alloc _).alloc _).alloc _))) (Z0V (l:=[0,1,2]) (by simp only[Z3,Z2];exact if_pos trivial) rfl)).mono ?_;rintro e w1 ⟨rfl,hE⟩;have Dq:Ext w0 w1:=((((Ext.rfl' w0).alloc _).alloc _).alloc _).trans hE;have gs1:w1.heap[w0.heap.size]? =some (.cells #[.int .i64 10,.int .i64 2,.int .i64 5,.int .i64 3,.slice (some ⟨B,0,none⟩) 7 7] 26):=hE.get (by simp only[Z3,Z2];rw[if_neg (by omega),if_neg (by omega),if_pos trivial]);have gc1:w1.heap[w0.heap.size+1]? =some (.cells #[.int .i64 2,.int .i64 4,.int .i64 1,.int .i64 2,.slice (some ⟨D,0,none⟩) 3 3] 70):=hE.get (by simp only[Z3,Z2];rw[if_neg (by omega),if_pos trivial]);have De:=Bf.trans Dq;clear hE
 have Y5:=Z5 gc1;have Y6:=Z5 gs1;have q0:=Z0 gs1 0;have q1:=Z0 gs1 1;have q2:=Z0 gs1 2;have q3:=Z0 gs1 3;have q4:=Z0 gs1 4;have r0:=Z0 gc1 0;have r1:=Z0 gc1 1;have r2:=Z0 gc1 2;have r3:=Z0 gc1 3;have r4:=Z0 gc1 4;simp only[List.getElem?_toArray,List.getElem?_cons_zero,List.getElem?_cons_succ] at q0 r0 q1 r1 q2 r2 q3 r3 q4 r4;rename_i Q K hK;refine hK _ _ ?_;clear hK;go_wp2_with fail;refine(Z59 [0,3] 2 0 rfl (by decide) v_m2 B _ _ (Q2.ext ((De.alloc _))) (Hq.ext ((De.alloc _))) (Z0V (l:=[0,3]) (by simp only[Z3,Z2];exact if_pos trivial) rfl)).mono ?_;rintro e w2 ⟨rfl,hE⟩;have Ds:Ext w1 w2:=((Ext.rfl' w1).alloc _).trans hE;have gs2:=Ds.get gs1;have gc2:=Ds.get gc1;have D4:=De.trans Ds;clear hE;have Ce:=Z5 gc2;have Y7:=Z5 gs2;clear Y5 Y6;clear q0 r0 q1 r1 q2 r2 q3 r3 q4 r4;have q0:=Z0 gs2 0;have q1:=Z0 gs2 1;have q2:=Z0 gs2 2;have q3:=Z0 gs2 3;have q4:=Z0 gs2 4;have r0:=Z0 gc2 0;have r1:=Z0 gc2 1;have r2:=Z0 gc2 2;have r3:=Z0 gc2 3;have r4:=Z0 gc2 4;simp only[List.getElem?_toArray,List.getElem?_cons_zero,List.getElem?_cons_succ] at q0 r0 q1 r1 q2 r2 q3 r3 q4 r4;rename_i Q K hK;refine hK _ _ ?_;clear hK;go_wp2_with fail;refine(Z59 [0,6] 2 2 rfl (by decide) v_m3 B _ _ (Q2.ext ((D4.alloc _))) (Hq.ext ((D4.alloc _))) (Z0V (l:=[0,6]) (by simp only[Z3,Z2];exact if_pos trivial) rfl)).mono ?_
 rintro e w3 ⟨rfl,hE⟩;have Ef:Ext w2 w3:=((Ext.rfl' w2).alloc _).trans hE;have gs3:=Ef.get gs2;have gc3:=Ef.get gc2;have Pn:=D4.trans Ef;clear hE;have Rn:=Z5 gc3;have Y8:=Z5 gs3;clear Ce Y7;clear q0 r0 q1 r1 q2 r2 q3 r3 q4 r4;have q0:=Z0 gs3 0;have q1:=Z0 gs3 1;have q2:=Z0 gs3 2;have q3:=Z0 gs3 3;have q4:=Z0 gs3 4;have r0:=Z0 gc3 0;have r1:=Z0 gc3 1;have r2:=Z0 gc3 2;have r3:=Z0 gc3 3;have r4:=Z0 gc3 4;simp only[List.getElem?_toArray,List.getElem?_cons_zero,List.getElem?_cons_succ] at q0 r0 q1 r1 q2 r2 q3 r3 q4 r4;rename_i Q K hK;refine hK _ _ ?_;clear hK;go_wp2_with fail;refine(Zc9 B _ _ (Q2.ext ((Pn.alloc _))) (Hq.ext ((Pn.alloc _))) (Z0V (l:=[0,2,3]) (by simp only[Z3,Z2];exact if_pos trivial) rfl)).mono ?_;rintro e w4 ⟨v9,rfl,hv9,hE⟩;have E2:Ext w3 w4:=((Ext.rfl' w3).alloc _).trans hE;have gs4:=E2.get gs3;have gc4:=E2.get gc3;have V4:=Pn.trans E2;obtain⟨a9,c9,rfl,So⟩:=hv9.rawAp;rw[v_ap.2.2];clear hE;have Ya:=Z5 gc4;have Yb:=Z5 gs4;clear Rn Y8;clear q0 r0 q1 r1 q2 r2 q3 r3 q4 r4;have q0:=Z0 gs4 0;have q1:=Z0 gs4 1;have q2:=Z0 gs4 2;have q3:=Z0 gs4 3;have q4:=Z0 gs4 4;have r0:=Z0 gc4 0;have r1:=Z0 gc4 1;have r2:=Z0 gc4 2;have r3:=Z0 gc4 3;have r4:=Z0 gc4 4
 simp only[List.getElem?_toArray,List.getElem?_cons_zero,List.getElem?_cons_succ] at q0 r0 q1 r1 q2 r2 q3 r3 q4 r4;rename_i Q K hK;refine hK _ _ ?_;clear hK;go_wp2_with fail;refine(ZdC B _ (Q2.ext V4) (Hq.ext V4)).mono ?_;rintro e w5 ⟨v11,v12,rfl,Yc,Yd,hE⟩;have Np:Ext w4 w5:=hE;have gs5:=Np.get gs4;have gc5:=Np.get gc4;have Ps:=V4.trans Np;obtain⟨a11,c11,rfl,Ye⟩:=Yc.rawL (by decide);obtain⟨a12,c12,rfl,Yf,Yg⟩:=Yd.rawI;clear Yg;clear hE;have Yh:=Z5 gc5;have Yi:=Z5 gs5;clear Ya Yb;clear q0 r0 q1 r1 q2 r2 q3 r3 q4 r4;have q0:=Z0 gs5 0;have q1:=Z0 gs5 1;have q2:=Z0 gs5 2;have q3:=Z0 gs5 3;have q4:=Z0 gs5 4;have r0:=Z0 gc5 0;have r1:=Z0 gc5 1;have r2:=Z0 gc5 2;have r3:=Z0 gc5 3;have r4:=Z0 gc5 4;simp only[List.getElem?_toArray,List.getElem?_cons_zero,List.getElem?_cons_succ] at q0 r0 q1 r1 q2 r2 q3 r3 q4 r4;rename_i Q K hK;refine hK _ _ ?_;clear hK;go_wp2_with fail;refine(Z8I B _ (Q2.ext Ps) (Hq.ext Ps)).mono ?_;rintro e w6 ⟨rfl,hE⟩;have D3:Ext w5 w6:=hE;have gs6:=D3.get gs5;have gc6:=D3.get gc5;have Yj:=Ps.trans D3;clear hE;have Yk:=Z5 gc6;have Yl:=Z5 gs6;clear Yh Yi;clear q0 r0 q1 r1 q2 r2 q3 r3 q4 r4;have q0:=Z0 gs6 0;have q1:=Z0 gs6 1;have q2:=Z0 gs6 2;have q3:=Z0 gs6 3;have q4:=Z0 gs6 4
 have r0:=Z0 gc6 0;have r1:=Z0 gc6 1;have r2:=Z0 gc6 2;have r3:=Z0 gc6 3;have r4:=Z0 gc6 4;simp only[List.getElem?_toArray,List.getElem?_cons_zero,List.getElem?_cons_succ] at q0 r0 q1 r1 q2 r2 q3 r3 q4 r4;rename_i Q K hK;refine hK _ _ ?_;clear hK;go_wp2_with fail;refine(ZdD D _ (Ol.ext Yj)).mono ?_;rintro e w7 ⟨rfl,hE⟩;have T6:Ext w6 w7:=hE;have gs7:=T6.get gs6;have gc7:=T6.get gc6;have V5:=Yj.trans T6;clear hE;have Ym:=Z5 gc7;have Yn:=Z5 gs7;clear Yk Yl;clear q0 r0 q1 r1 q2 r2 q3 r3 q4 r4;have q0:=Z0 gs7 0;have q1:=Z0 gs7 1;have q2:=Z0 gs7 2;have q3:=Z0 gs7 3;have q4:=Z0 gs7 4;have r0:=Z0 gc7 0;have r1:=Z0 gc7 1;have r2:=Z0 gc7 2;have r3:=Z0 gc7 3;have r4:=Z0 gc7 4;simp only[List.getElem?_toArray,List.getElem?_cons_zero,List.getElem?_cons_succ] at q0 r0 q1 r1 q2 r2 q3 r3 q4 r4;rename_i Q K hK;refine hK _ _ ?_;clear hK;go_wp2_with fail;refine(ZaK 30 93 100 rfl v_mk1 D _ (Ol.ext ((V5.alloc _))) (Br.ext ((V5.alloc _)))).mono ?_;rintro e w8 ⟨rfl,hE⟩;have T7:Ext w7 w8:=((Ext.rfl' w7).alloc _).trans hE;have gs8:=T7.get gs7;have gc8:=T7.get gc7;have V6:=V5.trans T7;have gp8:w8.heap[w7.heap.size]? =some (.cells #[.int .i64 93,.int .i64 102] 48):=hE.get (by simp only[Z3,Z2];exact if_pos trivial)
 clear hE;have Yo:=Z5 gc8;have Yp:=Z5 gs8;clear Ym Yn;clear q0 r0 q1 r1 q2 r2 q3 r3 q4 r4;have q0:=Z0 gs8 0;have q1:=Z0 gs8 1;have q2:=Z0 gs8 2;have q3:=Z0 gs8 3;have q4:=Z0 gs8 4;have r0:=Z0 gc8 0;have r1:=Z0 gc8 1;have r2:=Z0 gc8 2;have r3:=Z0 gc8 3;have r4:=Z0 gc8 4;simp only[List.getElem?_toArray,List.getElem?_cons_zero,List.getElem?_cons_succ] at q0 r0 q1 r1 q2 r2 q3 r3 q4 r4;rename_i Q K hK;refine hK _ _ ?_;clear hK;go_wp2_with fail;refine(ZaK 25 73 80 rfl v_mk2 D _ (Ol.ext ((V6.alloc _))) (Br.ext ((V6.alloc _)))).mono ?_;rintro e w9 ⟨rfl,hE⟩;have Ht:Ext w8 w9:=((Ext.rfl' w8).alloc _).trans hE;have gs9:=Ht.get gs8;have gc9:=Ht.get gc8;have V7:=V6.trans Ht;have gp9:w9.heap[w8.heap.size]? =some (.cells #[.int .i64 93,.int .i64 100] 48):=hE.get (by simp only[Z3,Z2];exact if_pos trivial);clear hE;have Yq:=Z5 gc9;have Yr:=Z5 gs9;clear Yo Yp;clear q0 r0 q1 r1 q2 r2 q3 r3 q4 r4;have q0:=Z0 gs9 0;have q1:=Z0 gs9 1;have q2:=Z0 gs9 2;have q3:=Z0 gs9 3;have q4:=Z0 gs9 4;have r0:=Z0 gc9 0;have r1:=Z0 gc9 1;have r2:=Z0 gc9 2;have r3:=Z0 gc9 3;have r4:=Z0 gc9 4;simp only[List.getElem?_toArray,List.getElem?_cons_zero,List.getElem?_cons_succ] at q0 r0 q1 r1 q2 r2 q3 r3 q4 r4
 rename_i Q K hK;refine hK _ _ ?_;clear hK;go_wp2_with fail;refine(ZaL 4 1 rfl v_h1 D _ (Ol.ext ((V7.alloc _))) (Br.ext ((V7.alloc _)))).mono ?_;rintro e w10 ⟨rfl,hE⟩;have Jf:Ext w9 w10:=((Ext.rfl' w9).alloc _).trans hE;have gs10:=Jf.get gs9;have gc10:=Jf.get gc9;have Ld:=V7.trans Jf;have gp10:w10.heap[w9.heap.size]? =some (.cells #[.int .i64 73,.int .i64 80] 48):=hE.get (by simp only[Z3,Z2];exact if_pos trivial);clear hE;have T8:=Z5 gc10;have T9:=Z5 gs10;clear Yq Yr;clear q0 r0 q1 r1 q2 r2 q3 r3 q4 r4;have q0:=Z0 gs10 0;have q1:=Z0 gs10 1;have q2:=Z0 gs10 2;have q3:=Z0 gs10 3;have q4:=Z0 gs10 4;have r0:=Z0 gc10 0;have r1:=Z0 gc10 1;have r2:=Z0 gc10 2;have r3:=Z0 gc10 3;have r4:=Z0 gc10 4;simp only[List.getElem?_toArray,List.getElem?_cons_zero,List.getElem?_cons_succ] at q0 r0 q1 r1 q2 r2 q3 r3 q4 r4;rename_i Q K hK;refine hK _ _ ?_;clear hK;go_wp2_with fail;refine(ZaL 3 0 rfl v_h2 D _ (Ol.ext Ld) (Br.ext Ld)).mono ?_;rintro e w11 ⟨rfl,hE⟩;have Jg:Ext w10 w11:=hE;have gs11:=Jg.get gs10;have gc11:=Jg.get gc10;have Le:=Ld.trans Jg;clear hE;have Ta:=Z5 gc11;have Tb:=Z5 gs11;clear T8 T9;clear q0 r0 q1 r1 q2 r2 q3 r3 q4 r4;have q0:=Z0 gs11 0;have q1:=Z0 gs11 1;have q2:=Z0 gs11 2;have q3:=Z0 gs11 3;have q4:=Z0 gs11 4
 have r0:=Z0 gc11 0;have r1:=Z0 gc11 1;have r2:=Z0 gc11 2;have r3:=Z0 gc11 3;have r4:=Z0 gc11 4;simp only[List.getElem?_toArray,List.getElem?_cons_zero,List.getElem?_cons_succ] at q0 r0 q1 r1 q2 r2 q3 r3 q4 r4;rename_i Q K hK;refine hK _ _ ?_;clear hK;go_wp2_with fail;refine(ZdE D _ (Ol.ext Le) (Br.ext Le)).mono ?_;rintro e w12 ⟨rfl,hE⟩;have Jh:Ext w11 w12:=hE;have gs12:=Jh.get gs11;have gc12:=Jh.get gc11;have Lf:=Le.trans Jh;clear hE;have Tc:=Z5 gc12;have Td:=Z5 gs12;clear Ta Tb;clear q0 r0 q1 r1 q2 r2 q3 r3 q4 r4;have q0:=Z0 gs12 0;have q1:=Z0 gs12 1;have q2:=Z0 gs12 2;have q3:=Z0 gs12 3;have q4:=Z0 gs12 4;have r0:=Z0 gc12 0;have r1:=Z0 gc12 1;have r2:=Z0 gc12 2;have r3:=Z0 gc12 3;have r4:=Z0 gc12 4;simp only[List.getElem?_toArray,List.getElem?_cons_zero,List.getElem?_cons_succ] at q0 r0 q1 r1 q2 r2 q3 r3 q4 r4;rename_i Q K hK;refine hK _ _ ?_;clear hK;go_wp2_with fail;refine(ZaM D _ (Ol.ext Lf) (Br.ext Lf)).mono ?_;rintro e w13 ⟨rfl,hE⟩;have Ji:Ext w12 w13:=hE;have gs13:=Ji.get gs12;have gc13:=Ji.get gc12;have Om:=Lf.trans Ji;clear hE;have hlt13:=Z5 gc13;have hlu13:=Z5 gs13;clear Tc Td;clear q0 r0 q1 r1 q2 r2 q3 r3 q4 r4;have q0:=Z0 gs13 0;have q1:=Z0 gs13 1;have q2:=Z0 gs13 2;have q3:=Z0 gs13 3;have q4:=Z0 gs13 4
 have r0:=Z0 gc13 0;have r1:=Z0 gc13 1;have r2:=Z0 gc13 2;have r3:=Z0 gc13 3;have r4:=Z0 gc13 4;simp only[List.getElem?_toArray,List.getElem?_cons_zero,List.getElem?_cons_succ] at q0 r0 q1 r1 q2 r2 q3 r3 q4 r4;rename_i Q K hK;refine hK _ _ ?_;clear hK;have hsz13:=Om.size;have hDW:∀W,Ext w13 W->∀(j:Nat) u,(exS.flatMap rsC)[j]? =some u->W.cell? ((⟨D,0,none⟩:Addr).add j)=some u:=by
  intro W hW j u hu;rw[Z0c,Z0 (hW.get (Om.get hDe)),<-Array.getElem?_toList];exact hu
 go_wp2_with (
  at_builtin
  go_loud (refine wpList_append_own _ rfl _ _ _ rfl (w13.heap.size+1+1) 80 Tryz.t80 (.agg #[.int .i64 0,.int .i64 0,.int .i64 0,.int .i64 0,.int .i64 0]) 5 40 u68 i80 t80z t80s t80b rfl (by omega) (.slice (some ⟨w13.heap.size+1+1,0,none⟩) 0 0) 0 [] rfl (Zcd (by simp only[Z3,Z2];exact if_pos trivial) (Nat.le_refl _)) ⟨D,0,none⟩ 3 3 (exS.flatMap rsC) rfl rfl (hDW _ ((((Ext.rfl' w13).alloc _).alloc _).alloc _)) (by decide) (by simp[maxLen]) (by omega) (by simp only[Z2];omega) ?_)
  intro v' w14 Jj Du _;obtain⟨g14,cp14,rfl,hg14,hg14'⟩:=World.ownsRow.form Jj (by omega);have Ys:Ext w13 w14:=Ext.grown ((((Ext.rfl' w13).alloc _).alloc _).alloc _) Du (fun k hk=>by simp[Value.ownBlock] at hk<;>omega);have gp14:w14.heap[w13.heap.size]? =some (.cells #[.int .i64 38,.int .i64 48] 48):=Z0m Du (fun e=>by simp[Value.ownBlock] at e<;>omega) (by simp only[Z3,Z2];rw[if_neg (by omega),if_neg (by omega),if_pos trivial]);have gk14:w14.heap[w13.heap.size+1]? =some (.cells #[.int .i64 2,.int .i64 4,.int .i64 1,.int .i64 2,.slice (some ⟨D,0,none⟩) 3 3] 70):=Z0m Du (fun e=>by simp[Value.ownBlock] at e<;>omega) (by simp only[Z3,Z2];rw[if_neg (by omega),if_pos trivial]);clear Du)
 refine(Z3P _ _ _).mono ?_;rintro e w15 ⟨rfl,Jk⟩;have Yt:=Ys.trans Jk;have gp15:=Jk.get gp14;have gk15:=Jk.get gk14;have On:=Z00 Jj Jk;rename_i Q K hK;refine hK _ _ ?_;clear hK
 go_wp2_with (
  at_builtin
  go_loud (refine wpList_append_own _ rfl _ _ _ rfl (w13.heap.size+1+1) 80 Tryz.t80 (.agg #[.int .i64 0,.int .i64 0,.int .i64 0,.int .i64 0,.int .i64 0]) 5 40 u68 i80 t80z t80s t80b rfl (by omega) (.slice (some ⟨g14,0,none⟩) 3 cp14) 3 (exS.flatMap rsC) rfl (On.alloc _) ⟨w15.heap.size,0,none⟩ 1 1 (rsC ⟨20,70,70,0,0⟩) rfl rfl ?_ (by decide) (by simp[maxLen]) (by omega) (by simp only[Z2];have:=Jk.size;omega) ?_)
  ·intro j u hu;rw[Z0c,Z0 (by rw[Z3,if_pos rfl]),<-Array.getElem?_toList];exact hu
  intro v' w16 Oo Dv _;obtain⟨g16,c16,cur,rfl,hg16,Yu,Te⟩:∃g c cur,v'= .slice (some ⟨g,0,none⟩) (3+1) c/\w13.heap.size+1+1<=g/\w16.heap[g]? =some (.cells cur 80)/\cur.toList.take ((3+1)*5)=exS.flatMap rsC++rsC ⟨20,70,70,0,0⟩:=by
   obtain⟨_,⟨_,h⟩|⟨g,c,cur,h1,h2,h3,_,_,_,h4⟩⟩:=Oo
   ·omega
   ·exact⟨g,c,cur,h1,h2,h3,h4⟩
  have Yv:Ext w13 w16:=Ext.grown (Yt.alloc _) Dv (fun k hk=>by simp[Value.ownBlock] at hk<;>omega);have gp16:w16.heap[w13.heap.size]? =some (.cells #[.int .i64 38,.int .i64 48] 48):=Z0m Dv (fun e=>by simp[Value.ownBlock] at e<;>omega) (((Ext.rfl' w15).alloc _).get gp15);have gk16:w16.heap[w13.heap.size+1]? =some (.cells #[.int .i64 2,.int .i64 4,.int .i64 1,.int .i64 2,.slice (some ⟨D,0,none⟩) 3 3] 70):=Z0m Dv (fun e=>by simp[Value.ownBlock] at e<;>omega) (((Ext.rfl' w15).alloc _).get gk15);clear Dv;have y0:=Z0 gk16 0;have y1:=Z0 gk16 1;have y2:=Z0 gk16 2;have y3:=Z0 gk16 3;have y4:=Z0 gk16 4;have z4:=Z8 gk16 4;have hlt16:=Z5 gk16;simp only[List.getElem?_toArray,List.getElem?_cons_zero,List.getElem?_cons_succ] at y0 y1 y2 y3 y4)
 have Yw:=Yv.setCell ⟨w13.heap.size+1,4,none⟩ (.slice (some ⟨g16,0,none⟩) 4 c16) (by simp only;omega);have I3:(w16.setCell ⟨w13.heap.size+1,4,none⟩ (.slice (some ⟨g16,0,none⟩) 4 c16)).heap[g16]? =some (.cells cur 80):=(set_ne (by simp only;omega) _).trans Yu;have gks:=Zb gk16 (i:=4) (.slice (some ⟨g16,0,none⟩) 4 c16);have gps:(w16.setCell ⟨w13.heap.size+1,4,none⟩ (.slice (some ⟨g16,0,none⟩) 4 c16)).heap[w13.heap.size]? =some (.cells #[.int .i64 38,.int .i64 48] 48):=(set_ne (by simp only;omega) _).trans gp16;replace gks:(w16.setCell ⟨w13.heap.size+1,4,none⟩ (.slice (some ⟨g16,0,none⟩) 4 c16)).heap[w13.heap.size+1]? =some (.cells #[.int .i64 2,.int .i64 4,.int .i64 1,.int .i64 2,.slice (some ⟨g16,0,none⟩) 4 c16] 70):=gks;generalize (w16.setCell ⟨w13.heap.size+1,4,none⟩ (.slice (some ⟨g16,0,none⟩) 4 c16))=ws at Yw I3 gks gps⊢;have Ak:=Om.trans Yw;refine(Zca g16 c16 ws (Z6Y (L:=exS4) I3 (Te.trans (by rfl))) (Br.ext Ak) (Vt.ext Ak)).mono ?_;rintro e w17 ⟨v33,rfl,Yx,Jl⟩;obtain⟨a33,c33,rfl,Yy,Yz⟩:=Yx.rawI;have gk17:=Jl.get gks;have gp17:=Jl.get gps;have hg17:=Jl.get I3;have Oq:=Ak.trans Jl;clear Yz y0 y1 y2 y3 y4 z4;have y0:=Z0 gk17 0;have y1:=Z0 gk17 1;have y2:=Z0 gk17 2;have y3:=Z0 gk17 3;have y4:=Z0 gk17 4
 simp only[List.getElem?_toArray,List.getElem?_cons_zero,List.getElem?_cons_succ] at y0 y1 y2 y3 y4;rename_i Q K hK;refine hK _ _ ?_;clear hK;go_wp2_with fail;refine(Zcb g16 c16 w17 (Z6Y (L:=exS4) hg17 (Te.trans (by rfl))) (Br.ext Oq) (Vt.ext Oq)).mono ?_;rintro e w18 ⟨v35,rfl,hv35,Lg⟩;obtain⟨a35,c35,rfl,hr35,hx35⟩:=hv35.rawI;have Tf:=Yy.ext Lg;have hE18:=Yw.trans (Jl.trans Lg);have Tg:=Ji.trans hE18;have Th:=Jh.trans Tg;have Eh:=Jg.trans Th;have Bc:=Jf.trans Eh;have Px:=Ht.trans Bc;have Ls:=T7.trans Px;have C1:=T6.trans Ls;have B5:=D3.trans C1;have Am:=Np.trans B5;have hr9z:=So.ext Am;have Ti:=Ye.ext B5;have Tj:=Yf.ext B5;have gp8z:=Px.get gp8;have gp9z:=Bc.get gp9;have gp10z:=Eh.get gp10;have gp18z:=Lg.get gp17;have hcz:=Oq.trans Lg;clear hx35 y0 y1 y2 y3 y4 q0 q1 q2 q3 q4 r0 r1 r2 r3 r4 Am B5 C1 Ls Px Bc Eh Th Tg Dq Ds Ef E2 Np D3 T6 T7 Ht Jf Jg Jh Ji De D4 Pn V4 Ps Yj V5 V6 V7 Ld Le Lf;rename_i Q K hK;refine hK _ _ ?_;clear hK;go_wp2_with fail;refine(Z25 a9 3 c9 (Z0Q 10 2 5 3 exL [0,2,3]) _ 3 3 exA _ v_ap.2.2 rfl (by decide) (hr9z.ext ((Ext.rfl' w18).alloc _)) (ZaN (by simp only[Z3,Z2];exact if_pos trivial) rfl)).mono ?_
 rintro e w19 ⟨rfl,hE⟩;have Tk:=((Ext.rfl' w18).alloc _).trans hE;rw[v_ap.1];clear hE;rename_i Q K hK;refine hK _ _ ?_;clear hK;go_wp2_with fail;refine(Z55 a11 2 c11 [[0,1,2],[3,4,5]] _ 2 2 [[0,1,2],[3,4,5]] _ rfl rfl (by decide) (Ti.ext (((Tk.alloc _).alloc _).alloc _)) (Zcc (b:=w19.heap.size) (by simp only[Z3,Z2];rw[if_neg (by omega),if_neg (by omega),if_pos trivial]) (by simp only[Z3,Z2];rw[if_neg (by omega),if_pos trivial]) (by simp only[Z3,Z2];exact if_pos trivial))).mono ?_;rintro e w20 ⟨rfl,hE⟩;have Tl:=Tk.trans (((((Ext.rfl' w19).alloc _).alloc _).alloc _).trans hE);rw[show decide (([[0,1,2],[3,4,5]]:List (List Int))=[[0,1,2],[3,4,5]])=true from by decide];clear hE;rename_i Q K hK;refine hK _ _ ?_;clear hK;go_wp2_with fail;refine(Z1d a12 1 c12 [6] _ 1 1 [6] _ rfl rfl (by decide) (Tj.ext (Tl.alloc _)) (Z0V (by simp only[Z3,Z2];exact if_pos trivial) rfl)).mono ?_;rintro e w21 ⟨rfl,hE⟩;have Gv:=Tl.trans (((Ext.rfl' w20).alloc _).trans hE);rw[show decide (([6]:List Int)=[6])=true from by decide];clear hE;rename_i Q K hK;refine hK _ _ ?_;clear hK;go_wp2_with fail;obtain⟨w1,Lv⟩:∃w1:World,w1=w21:=⟨_,rfl⟩;have gp8w:=Gv.get gp8z;have gp9w:=Gv.get gp9z;have gp10w:=Gv.get gp10z;have gp18w:=Gv.get gp18z
 have Mi:=Tf.ext Gv;have Mj:=hr35.ext Gv;have hcw:=hcz.trans Gv;rw[<-Lv] at gp8w gp9w gp10w gp18w Mi Mj hcw⊢;clear Lv;have z8:=Zc gp8w;have gz8:=Zet z8.1;have gy8:=Zet z8.2.1;clear z8;have z9:=Zc gp9w;have gz9:=Zet z9.1;have gy9:=Zet z9.2.1;clear z9;have z10:=Zc gp10w;have gz10:=Zet z10.1;have gy10:=Zet z10.2.1;clear z10;have z18:=Zc gp18w;have gz18:=Zet z18.1;have gy18:=Zet z18.2.1;clear z18;refine ZeG 49 (by kernel_rfl) ?_;refine ZeB [0] (by kernel_rfl) (by kernel_rfl) ?_;simp only[ZeD,List.getElem?_cons_succ,List.getElem?_cons_zero,List.cons_append,List.nil_append]
 repeat (go_big_quiet_step (fail))
 refine wpQuiet_nil ?_;refine ZeX 1 (f:=34) (args:= #[.int .i64 93,.int .i64 102]) (v:= .agg #[.int .i64 93,.int .i64 102]) (by kernel_rfl) rfl (by kernel_rfl) rfl (fun W=>by simp[go_sem,execOp,Act.eval]) (fun W _=>Z3P 93 102 W) ?_;go_simp;refine ZeB [2,3,4] (by kernel_rfl) (by kernel_rfl) ?_;simp only[ZeD,List.getElem?_cons_succ,List.getElem?_cons_zero,List.cons_append,List.nil_append]
 repeat (go_big_quiet_step (fail))
 refine wpQuiet_nil ?_;refine ZeX 5 (f:=34) (args:= #[.int .i64 93,.int .i64 100]) (v:= .agg #[.int .i64 93,.int .i64 100]) (by kernel_rfl) rfl (by kernel_rfl) rfl (fun W=>by simp[go_sem,execOp,Act.eval]) (fun W _=>Z3P 93 100 W) ?_;go_simp;refine ZeB [6,7,8,9] (by kernel_rfl) (by kernel_rfl) ?_;simp only[ZeD,List.getElem?_cons_succ,List.getElem?_cons_zero,List.cons_append,List.nil_append]
 repeat (go_big_quiet_step (fail))
 refine wpQuiet_nil ?_;refine ZeX 10 (f:=34) (args:= #[.int .i64 73,.int .i64 80]) (v:= .agg #[.int .i64 73,.int .i64 80]) (by kernel_rfl) rfl (by kernel_rfl) rfl (fun W=>by simp[go_sem,execOp,Act.eval]) (fun W _=>Z3P 73 80 W) ?_;go_simp;refine ZeB [11,12,13,14,15,16,17,18,19,20,21,22,23,24,25,26,27,28,29,30,31,32,33,34] (by kernel_rfl) (by kernel_rfl) ?_;simp only[ZeD,List.getElem?_cons_succ,List.getElem?_cons_zero,List.cons_append,List.nil_append]
 repeat (go_big_quiet_step (fail))
 refine wpQuiet_nil ?_;refine ZeX 35 (f:=34) (args:= #[.int .i64 38,.int .i64 48]) (v:= .agg #[.int .i64 38,.int .i64 48]) (by kernel_rfl) rfl (by kernel_rfl) rfl (fun W=>by simp[go_sem,execOp,Act.eval]) (fun W _=>Z3P 38 48 W) ?_;go_simp;refine ZeB [36,37,38,39] (by kernel_rfl) (by kernel_rfl) ?_;simp only[ZeD,List.getElem?_cons_succ,List.getElem?_cons_zero,List.cons_append,List.nil_append]
 repeat (go_big_quiet_step (fail))
 refine wpQuiet_nil ?_;refine Zfa 40 rfl (by kernel_rfl) rfl (fun W hW=>Zf3 ⟨.slice (some ⟨W.heap.size,0,none⟩) 2 2,W.alloc (.cells #[.int .i64 1,.int .i64 3] 3),by simp[go_sem,execOp,Act.eval],(Ext.rfl' W).alloc _,?_⟩);have m9:RawI (W.alloc (.cells #[.int .i64 1,.int .i64 3] 3)) (some ⟨W.heap.size,0,none⟩) [1,3]:=Z0V ((Z3 _ _ _).trans (if_pos rfl)) rfl;have e9:=hW.alloc (.cells #[.int .i64 1,.int .i64 3] 3);obtain⟨b9,Ia⟩:∃b,b=W.heap.size:=⟨_,rfl⟩;rw[<-Ia] at m9;rw[<-Ia];generalize W.alloc _=W9 at m9 e9⊢;clear Ia hW;clear W;go_simp
 refine ZeX 41 (f:=58) (args:= #[.slice a33 2 c33,.slice (some ⟨b9,0,none⟩) 2 2]) (v:= .bool true) (by kernel_rfl) rfl (by kernel_rfl) rfl (fun W=>by simp[go_sem,execOp,Act.eval]) (fun W hW=>by
  have:=Z1d a33 2 c33 [1,3] (some ⟨b9,0,none⟩) 2 2 [1,3] W rfl rfl (by decide) (Mi.ext (e9.trans hW)) (m9.ext hW)
  rwa [decide_eq_true rfl] at this) ?_
 go_simp;refine ZeB [42,43,44] (by kernel_rfl) (by kernel_rfl) ?_;simp only[ZeD,List.getElem?_cons_succ,List.getElem?_cons_zero,List.cons_append,List.nil_append]
 repeat (go_big_quiet_step (fail))
 refine wpQuiet_nil ?_;refine Zfa 45 rfl (by kernel_rfl) rfl (fun W hW=>Zf3 ⟨.slice (some ⟨W.heap.size,0,none⟩) 3 3,W.alloc (.cells #[.int .i64 0,.int .i64 1,.int .i64 2] 3),by simp[go_sem,execOp,Act.eval],(Ext.rfl' W).alloc _,?_⟩);clear m9;have m9:RawI (W.alloc (.cells #[.int .i64 0,.int .i64 1,.int .i64 2] 3)) (some ⟨W.heap.size,0,none⟩) [0,1,2]:=Z0V ((Z3 _ _ _).trans (if_pos rfl)) rfl;have e9:=(e9.trans hW).alloc (.cells #[.int .i64 0,.int .i64 1,.int .i64 2] 3);obtain⟨b9,Ia⟩:∃b,b=W.heap.size:=⟨_,rfl⟩;rw[<-Ia] at m9;rw[<-Ia];generalize W.alloc _=W9 at m9 e9⊢;clear Ia hW;clear W;go_simp
 refine ZeX 46 (f:=58) (args:= #[.slice a35 3 c35,.slice (some ⟨b9,0,none⟩) 3 3]) (v:= .bool true) (by kernel_rfl) rfl (by kernel_rfl) rfl (fun W=>by simp[go_sem,execOp,Act.eval]) (fun W hW=>by
  have:=Z1d a35 3 c35 [0,1,2] (some ⟨b9,0,none⟩) 3 3 [0,1,2] W rfl rfl (by decide) (Mj.ext (e9.trans hW)) (m9.ext hW)
  rwa [decide_eq_true rfl] at this) ?_
 go_simp;refine ZeB [47,48] (by kernel_rfl) (by kernel_rfl) ?_;simp only[ZeD,List.getElem?_cons_succ,List.getElem?_cons_zero,List.cons_append,List.nil_append]
 repeat (go_big_quiet_step (fail))
 refine wpQuiet_nil ?_;refine Zf6 (by kernel_rfl) (fun W hW=> ?_);have hEf:=G5.trans (hcw.trans (e9.trans hW));go_wp2;go_ret;exact⟨rfl,hEf⟩
end Go.Proofs.Tryq
namespace Go.Proofs.Tryq
open Go Go.Nk Go.RowKit
set_option linter.all false
def OwnS(base:Nat)(w:World)(v:Value)(S:List Rs):Prop:=w.ownsRow base 80 5 v S.length (Ziv S)
theorem OwnS.ext{w w':World}{b:Nat}{v:Value}{S:List Rs}(h:OwnS b w v S)(hE:Ext w w'):OwnS b w' v S:=Z00 h hE
theorem OwnS.lt{w:World}{b:Nat}{v:Value}{S:List Rs}(h:OwnS b w v S)(k:Nat)(hk:v.ownBlock=some k):b<=k/\k<w.heap.size:=World.ownsRow.lt h k hk
theorem OwnS.form{w:World}{b:Nat}{v:Value}{S:List Rs}(h:OwnS b w v S)(h0:0<S.length):∃g cap,v= .slice (some ⟨g,0,none⟩) S.length cap/\b<=g/\g<w.heap.size/\RawS w (some ⟨g,0,none⟩) S/\S.length<=cap/\cap<=maxLen:=by
 have hc:=fun g hg=>World.ownsRow.cells (g:=g) h hg
 rcases h.2 with⟨_,h1⟩|⟨g,cap,cur,rfl,hb,hg,h1,h2,_,_⟩
 ·omega
 ·refine⟨g,cap,rfl,hb,Z5 hg,ZiI (Z5 hg) fun j u hj=> ?_,h1,h2⟩;have:=hc g rfl j u hj;rw[Zh7] at this;exact this
theorem Ziw{w w':World}{g O:Nat}{S:List Rs}(h:RawS w (some ⟨g,O,none⟩) S)(e:w'.heap[g]? =w.heap[g]?):RawS w' (some ⟨g,O,none⟩) S:=by
 intro i s hs;obtain⟨b,off,e1,hb,sh⟩:=h i s hs;obtain⟨rfl,rfl⟩:g=b/\O=off:=by simpa using e1
 have hc:∀o,w'.cell? ⟨g,o,none⟩=w.cell? ⟨g,o,none⟩:=fun o=>by simp only[World.cell?,e]
 have hb':g<w'.heap.size:=by
  rw[Array.getElem?_eq_getElem hb] at e;exact(Array.getElem?_eq_some_iff.1 e).1
 exact⟨g,O,rfl,hb',by rw[hc];exact sh.c0,by rw[hc];exact sh.c1,by rw[hc];exact sh.c2,by rw[hc];exact sh.c3,by rw[hc];exact sh.c4⟩
theorem Zix{o:Oper}{a:Act}{w:World}{K:Act->World->Prop}{Q:Exit->Act->World->Prop}(s x:Operand)(ho:o.op= .call {callee:= .builtin .append,args:= #[s,x],argTypes:= #[68,68]})
 (base:Nat)(v:Value)(T:List Rs)(hs:a.eval s=v)(Ae:OwnS base w v T)(ad:Addr)(c:Nat)(S:List Rs)(hx:a.eval x= .slice (some ad) S.length c)(E9:∀j u,(Ziv S)[j]? =some u->w.cell? (ad.add j)=some u)
 (hb:T.length+S.length<=1000)(A4:base<=w.heap.size)(h:∀v' w',OwnS base w' v' (T++S)->w.grownBy w' v.ownBlock->K (a.put o.dst v') w'):o.wp prog a w K Q:=by
 refine wp_append_own w s x 68 ho base 80 Tryz.t80 _ 5 40 u68 i80 t80z t80s t80b rfl (by omega) v T.length (Ziv T) hs Ae ad S.length c (Ziv S) hx (shotsV_len S) E9 (ZiM S) (by simp only[maxLen];omega) (by omega) A4 ?_;intro v' w' h1 h2 _;refine h v' w' ?_ h2;show w'.ownsRow base 80 5 v' (T++S).length (Ziv (T++S));rw[ZiH,List.length_append];exact h1
end Go.Proofs.Tryq
namespace Go.Nk
open Go Go.Region Go.Proofs.Tryq
section
variable {P:Program} {ops:Array Oper} {R:Exit->Act->World->Prop} {E:World->World->Prop} {t:Nat} {l:List Nat}
def Zjz(P:Program)(ops:Array Oper)(R:Exit->Act->World->Prop)(E:World->World->Prop)(t:Nat):Nat->Array Bool->Act->World->Prop
 |0,listed,a,w=>Region.ready .any ops listed=[]/\R .normal a w
 |n+1,listed,a,w=>(Region.ready .any ops listed=[]->R .normal a w)/\∀i∈Region.ready .any ops listed,
   wpOp P ops FQ i (fun a' W'=>(i<t->E w W')/\Zjz P ops R E t n (listed.setIfInBounds i true) a' W') a w
theorem wpAny_of_Z:∀(n:Nat)(l:Array Bool)(a:Act)(w:World),Zjz P ops R E t n l a w->wpAny P .any ops R n l a w
 |0,_,_,w,h=>h
 |n+1,_,_,w,h=>⟨h.1,fun i hi=>Zf8 noFQ (fun a' w' h'=>wpAny_of_Z n _ a' w' h'.2) (h.2 i hi)⟩
theorem Zji(hE:Pre E){i:Nat}{oi:Oper}{v:Value}(hi:ops[i]? =some oi)(Cf:∀(j:Nat)(o:Oper) cs b,ops[j]? =some o->o.op≠.select cs b)(Ah:Zf9 ops t i=true):
 ∀(n:Nat)(listed:Array Bool)(a:Act)(w:World),Closed ops listed->
  (∀j oj,ops[j]? =some oj->j≠i->listed.getD j true=false->(∀e∈oj.after,Region.binds .any e=true->e.on≠i)->oi.apart ops oj=true)->
  i∈Region.ready .any ops listed->YX P ops E w oi v a->Zjz P ops R E t n (listed.setIfInBounds i true) (a.put oi.dst v) w->Zjz P ops R E t (n+1) listed a w:=by
 intro n
 induction n with
 |zero=>
  intro listed a w _ _ hr hy H;refine⟨fun h=>(by rw[h] at hr;cases hr),fun j hj=> ?_⟩;by_cases As:j=i
  ·subst As;exact hy.wpOp hE hi ⟨fun _=>hE.rfl' w,H⟩
  ·have:=Go.ready_mono hj As;rw[H.1] at this;cases this
 |succ n ih=>
  intro listed a w hc Cb hr hy H;refine⟨fun h=>(by rw[h] at hr;cases hr),fun j hj=> ?_⟩;by_cases As:j=i
  ·subst As;exact hy.wpOp hE hi ⟨fun _=>hE.rfl' w,H⟩
  ·obtain⟨D8,oj,Bp,Aj⟩:=Go.mem_ready.1 hj;have Ci:=Cb j oj Bp As D8 (ZeW (j:=j) (Go.mem_ready.1 hr).1 Aj)
   have D9:∀k ok,ops[k]? =some ok->k≠i->(listed.setIfInBounds j true).getD k true=false->
    (∀e∈ok.after,Region.binds .any e=true->e.on≠i)->oi.apart ops ok=true:=fun k ok hk Ge Hf Ed=>by
    refine Cb k ok hk Ge ?_ Ed;by_cases Gj:j=k
    ·subst Gj;exact D8
    ·rw[getD_set_ne true Gj] at Hf;exact Hf
   have h1:=H.2 j (Go.ready_mono hj As);refine wpOp_mono (fun a' w' h3=> ?_) (ZeV Bp Ci (fun cs b=>Cf j oj cs b Bp) h1);obtain⟨⟨u,d,rfl⟩,h4,h5⟩:=h3;refine⟨h4,ih (listed.setIfInBounds j true) _ w' (hc.set hj) D9 (Go.ready_mono hr (Ne.symm As)) (YX.kept Ci (fun cs b=>Cf i oi cs b hi) (hy.ext hE (h4 (ZeJ hc Ah hr hj)))) ?_⟩;rw[Array.setIfInBounds_comm _ _ As];exact h5
def LZE(P:Program)(ops:Array Oper)(R:Exit->Act->World->Prop)(E:World->World->Prop)(t:Nat)(l:List Nat)(a:Act)(w:World):Prop:=Zjz P ops R E t (ops.size - l.length) (mark ops.size l) a w
def Zju(ops:Array Oper)(t:Nat)(l:List Nat)(k:Nat):Bool:=decide (l.length<ops.size)&&(Region.ready .any ops (mark ops.size l)).contains k&&Region.free .any ops (mark ops.size l) k&&Zf9 ops t k&&Zik ops l
theorem Zjv(hE:Pre E){k:Nat}{o:Oper}{v:Value}{a:Act}{w:World}(hs:Region.noSelect ops=true)(hi:ops[k]? =some o)(hf:Zju ops t l k=true)(hy:YX P ops E w o v a)(h:LZE P ops R E t (k::l) (a.put o.dst v) w):LZE P ops R E t l a w:=by
 unfold Zju at hf;simp only[Bool.and_eq_true,decide_eq_true_eq] at hf;obtain⟨⟨⟨⟨h2,h3⟩,h4⟩,h5⟩,h6⟩:=hf;unfold LZE at*;rw[show ops.size - l.length=(ops.size - (k::l).length)+1 by simp only[List.length_cons];omega];exact Zji hE hi (Region.noSelect_spec hs) h5 _ _ a w (Zid h6) (Region.free_spec hi h4) (by simpa using h3) hy h
theorem Zj7(k:Nat){o:Oper}{a:Act}{w:World}(hi:ops[k]? =some o)(hb:(decide (l.length<ops.size)&&Region.ready .any ops (mark ops.size l)==[k])=true)(hw:Region.wanted o (yielded ops a.tmps)=true)
 (h:o.wp P a w (fun a' W'=>(k<t->E w W')/\LZE P ops R E t (k::l) a' W') FQ):LZE P ops R E t l a w:=by
 simp only[Bool.and_eq_true,decide_eq_true_eq,beq_iff_eq] at hb;unfold LZE at*;rw[show ops.size - l.length=(ops.size - (k::l).length)+1 by simp only[List.length_cons];omega];refine⟨fun h0=>(by rw[h0] at hb;cases hb.2),fun i hi'=> ?_⟩;rw[hb.2] at hi';obtain rfl:i=k:=by simpa using hi'
 unfold wpOp;simp only[hi,hw,if_true];exact .inl h
theorem Zjw{a:Act}{w:World}(hk:(ops.size==l.length&&(Region.ready .any ops (mark ops.size l)).isEmpty)=true)(h:R .normal a w):LZE P ops R E t l a w:=by
 rw[Bool.and_eq_true,beq_iff_eq,List.isEmpty_iff] at hk;unfold LZE;rw[show ops.size - l.length=0 by omega];exact⟨hk.2,h⟩
def Zjh(ops:Array Oper)(t:Nat):List Nat->List Nat->Bool
 |[],_=>true
 |k::ks,l=>Zju ops t l k&&(match ops[k]? with|some o=>ZeC o|none=>false)&&Zjh ops t ks (k::l)
theorem Zjp(hE:Pre E){w:World}(hs:Region.noSelect ops=true):∀(ks l:List Nat)(a:Act),Zjh ops t ks l=true->wpQuiet P ops (fun w'=>∃p:GrE E w,w'=p.W) (fun a'=>LZE P ops R E t (doneL ks l) a' w) (ZeD ops.toList ks) a->LZE P ops R E t l a w:=by
 intro ks
 induction ks with
 |nil=>intro l a _ h;exact h
 |cons k ks ih=>
  intro l a hp h;simp only[Zjh,Bool.and_eq_true] at hp;obtain⟨⟨hf,ho⟩,hp⟩:=hp;cases hi:ops[k]? with
  |none=>rw[hi] at ho;cases ho
  |some o=>
   rw[hi] at ho;rw[ZeD,show ops.toList[k]? =some o by rw[Array.getElem?_toList];exact hi] at h;have hq:qOp P ops (fun w'=>∃p:GrE E w,w'=p.W) k (wpQuiet P ops (fun w'=>∃p:GrE E w,w'=p.W) (fun a'=>LZE P ops R E t (doneL (k::ks) l) a' w) (ZeD ops.toList ks)) a:=by
    unfold qOp;simp only[hi];exact h
   obtain⟨v,hy,hK⟩:=yieldsIn_of_qOp hi hq;exact Zjv hE hs hi hf (hy.imp (fun h=>⟨h.1,fun W hW=>ZhU ho (h.2 W ⟨⟨W,hW⟩,rfl⟩)⟩) id) (ih _ _ hp hK)
theorem Zjb(hE:Pre E){o:List Oper}(ks:List Nat){a:Act}{w:World}(hs:Region.noSelect o.toArray=true)(hp:Zjh o.toArray t ks l=true)(h:wpQuiet P o.toArray (fun w'=>∃p:GrE E w,w'=p.W) (fun a'=>LZE P o.toArray R E t (doneL ks l) a' w) (ZeD o ks) a):LZE P o.toArray R E t l a w:=
 Zjp hE hs ks l a hp h
theorem Zjj(E:World->World->Prop)(t:Nat){id:Nat}{a:Act}{w:World}(hm:P.follows .mixedOrders=true)(h:LZE P ops R E t [] a w.drew):(Code.region id ops true).wp P R a w:=by
 unfold LZE at h;exact wp_region_any hm (wpAny_of_Z _ _ _ _ h)
end
end Go.Nk
namespace Go.Proofs.Tryq
open Go Go.Nk Go.RowKit
end Go.Proofs.Tryq
namespace Go.Proofs.Tryq
set_option maxRecDepth 100000
set_option maxHeartbeats 2000000
open Go Go.Nk Go.RowKit
theorem Z5a(n:Nat)(bl:Option Addr)(k cl:Nat)(l:List Int)(w:World)(hn:n<=1000000)(hk:l.length=k)(B1:k<=1000000)(hl:RawI w bl l):
 Calls prog 40 #[.slice bl k cl,.int .i64 n] w fun e w'=>e= .returned (.int .i64 (Zq n l))/\Ext w w':=by
 have Vu:wrap64 ((n:Int) - 1)=(n:Int) - 1:=by unfold wrap64;omega
 have H:Hid (Zq n l=Z1k n (Z12 l 0) (l.drop 0)):=rfl;go_enter func40,ntmps40;go_wp2;go_loopw [5] (fun v wr=>∃i:Nat,i<=k/\v= .int .i64 i/\Ext w wr/\Hid (Zq n l=Z1k n (Z12 l i) (l.drop i))) (fun v _=>k - (intOf v).toNat)
 case atStart=>exact⟨0,Nat.zero_le _,rfl,Ext.rfl' w,H⟩
 case round=>
  obtain⟨i,hi,rfl,hE,hH⟩:=hrel;clear H;by_cases An:i=k
  ·subst An;have hz:Hid (Zq n l=0):=by show Zq n l=0;rw[hH.out,<-hk,List.drop_length];rfl
   go_wp2;go_ret;exact⟨ZK (a:=0) hz.out.symm,hE⟩
  ·have A3:i<k:=by omega
   obtain⟨x,hx⟩:∃x,l[i]? =some x:=⟨_,List.getElem?_eq_getElem (by omega)⟩;have Ah:Hid (Zq n l=if¬(0<=x/\x<=(n:Int) - 1) then 6 else if(match Z12 l i with|some y=>decide (x<=y)|none=>false) then 7 else Z1k n (Z12 l (i+1)) (l.drop (i+1))):=by
    show Zq n l=_;rw[hH.out,Z0b hx];have e1:Z12 l (i+1)=some x:=hx;rw[e1];conv=>lhs;unfold Z1k
    rfl
   have Cw:=hl.ext hE;obtain⟨b',off,rfl,hb,hc⟩:=Cw i x hx;have C3:=fun w=>Z4r x 0 ((n:Int) - 1) w
   cases Ei:decide (0<=x/\x<=(n:Int) - 1)
   ·rw[Ei] at C3;have B4:Hid (Zq n l=6):=(by show Zq n l=6;rw[Ah.out,if_pos (of_decide_eq_false Ei)]);clear Ah hH hx Ei;go_wp2_with (first|(go_at_call 93;refine(C3 _).mono ?_;rintro e wr ⟨rfl,rfl⟩));go_ret;exact⟨ZK (a:=6) B4.out.symm,hE⟩
   ·rw[Ei] at C3;have B4:Hid (Zq n l=if(match Z12 l i with|some y=>decide (x<=y)|none=>false) then 7 else Z1k n (Z12 l (i+1)) (l.drop (i+1))):=(by show Zq n l=_;rw[Ah.out,if_neg (by simpa using of_decide_eq_true Ei)]);clear Ah hH Ei;cases i with
    |zero=>
     have Fr:Hid (Zq n l=Z1k n (Z12 l (0+1)) (l.drop (0+1))):=(by show Zq n l=_;rw[B4.out];simp[Z12]);clear hx B4;replace hc:wr.cell? ⟨b',off,none⟩=some (.int .i64 x):=hc;go_wp2_with (first|(go_at_call 93;refine(C3 _).mono ?_;rintro e wr ⟨rfl,rfl⟩));refine ZeG 14 (by kernel_rfl) ?_;refine ZeB [0,1,2,3,4,5,6,7,8,9,10,11,12,13] (by kernel_rfl) (by kernel_rfl) ?_;simp only[ZeD,List.getElem?_cons_succ,List.getElem?_cons_zero,List.cons_append,List.nil_append]
     repeat (go_big_quiet_step (fail))
     refine wpQuiet_nil ?_;refine Zf6 (by kernel_rfl) (fun W hW=> ?_);have Az:=hW;have A7:=hE.trans Az;go_wp2;go_roundw
     case rel=>exact⟨1,by omega,rfl,A7,Fr⟩
     case measure=>simp[intOf];omega
    |succ j=>
     obtain⟨y,hy⟩:∃y,l[j]? =some y:=⟨_,List.getElem?_eq_getElem (by omega)⟩;obtain⟨b2,off2,Gc,A9,D4⟩:=Cw j y hy;simp only[Option.some.injEq,Addr.mk.injEq,and_true] at Gc;obtain⟨rfl,rfl⟩:=Gc;have Cy:Hid (Zq n l=if decide (x<=y) then 7 else Z1k n (Z12 l (j+1+1)) (l.drop (j+1+1))):=(by show Zq n l=_;rw[B4.out];simp only[Z12,hy]);clear B4 hx hy;have W6:(0:Int)<(j:Int)+1:=(by omega);have hjw:wrap64 ((j:Int)+1 - 1)=j:=(by unfold wrap64;omega);have Hj:¬((j:Int)+1<0):=(by omega);have hjw2:IntKind.i64.wrap (j:Int)=j:=(by rw[IntKind.wrap_i64];omega);have Gj:¬((k:Int)<=(j:Int)+1):=(by omega);have hjk2:¬(k<=j):=(by omega);have hj1:((j:Int)+1).toNat=j+1:=(by omega);go_wp2_with (first|(go_at_call 93;refine(C3 _).mono ?_;rintro e wr ⟨rfl,rfl⟩));have gz0:=Zet hc;have gz1:=Zet D4;refine ZeG 14 (by kernel_rfl) ?_;refine ZeB [0,1,2,3,4,5,6,7,8,9,10,11,12,13] (by kernel_rfl) (by kernel_rfl) ?_;simp only[ZeD,List.getElem?_cons_succ,List.getElem?_cons_zero,List.cons_append,List.nil_append]
     repeat (go_big_quiet_step (fail))
     refine wpQuiet_nil ?_;refine Zf6 (by kernel_rfl) (fun W hW=> ?_);have Az:=hW;clear gz0 gz1;have A7:=hE.trans Az;by_cases Cj:x<=y
     ·have E3:Hid (Zq n l=7):=(by show Zq n l=7;rw[Cy.out,if_pos (decide_eq_true Cj)]);clear Cy;go_wp2;go_ret;exact⟨ZK (a:=7) E3.out.symm,A7⟩
     ·have E3:Hid (Zq n l=Z1k n (Z12 l (j+1+1)) (l.drop (j+1+1))):=(by show Zq n l=_;rw[Cy.out,if_neg (by simpa using Cj)]);clear Cy;go_wp2;go_roundw
      case rel=>exact⟨j+1+1,by omega,by push_cast;rfl,A7,E3⟩
      case measure=>simp[intOf];omega
end Go.Proofs.Tryq
namespace Go.Proofs.Tryq
open Go Go.Nk Go.RowKit
set_option linter.all false
set_option linter.all false
theorem ZeO(n:Nat):∀(l:List Int)(o:Option Int),(∀y,o=some y->∀x∈l,y<x)->l.Pairwise (·<·)->(∀x∈l,0<=x/\x<n)->Z1k n o l=0
 |[],_,_,_,_=>rfl
 |x::t,o,h1,h2,h3=>by
  rw[Z8y];have hx:=h3 x (List.mem_cons_self ..);rw[if_neg (by simp only[Decidable.not_not];omega)];obtain⟨h4,h5⟩:=List.pairwise_cons.1 h2;have ih:=ZeO n t (some x) (fun y e z hz=>by injection e with e;subst e;exact h4 z hz) h5 (fun z hz=>h3 z (List.mem_cons_of_mem _ hz));cases o with
  |none=>simpa using ih
  |some y=>
   have h6:=h1 y rfl x (List.mem_cons_self ..);have h7:decide (x<=y)=false:=by simp only[decide_eq_false_iff_not];omega
   simpa[h7] using ih
theorem ZeE{n:Nat}{l:List Int}(h2:l.Pairwise (·<·))(h3:∀x∈l,0<=x/\x<n):Zq n l=0:=
 ZeO n l none (fun y e=>by cases e) h2 h3
set_option linter.all false
def lessL:List Int->List Int->Bool
 |[],[]=>false
 |[],_::_=>true
 |_::_,[]=>false
 |x::l,y::k=>if x=y then lessL l k else decide (x<y)
theorem chooseR_iff:∀(s l:List Int),l∈chooseR s↔l.Sublist s
 |[],l=>by simp[chooseR]
 |x::t,l=>by
  have h:l∈chooseR (x::t)↔(l=[]\/(∃c∈chooseR t,x::c=l)\/l∈(chooseR t).tail):=by
   show l∈[]::((chooseR t).map (x::·)++(chooseR t).tail)↔_;rw[List.mem_cons,List.mem_append,List.mem_map]
  rw[h];constructor
  ·rintro(rfl|⟨c,hc,rfl⟩|h)
   ·exact List.nil_sublist _
   ·exact((chooseR_iff t c).1 hc).cons_cons x
   ·exact((chooseR_iff t l).1 (by rw[chooseR_head];exact List.mem_cons_of_mem _ h)).cons x
  ·intro h;cases h with
   |cons _ h=>
    have h2:=(chooseR_iff t l).2 h;rw[chooseR_head] at h2;rcases List.mem_cons.1 h2 with h2|h2
    ·exact .inl h2
    ·exact .inr (.inr h2)
   |cons_cons _ h=>exact .inr (.inl ⟨_,(chooseR_iff t _).2 h,rfl⟩)
theorem ZgK(n:Nat):((List.range n).map fun(i:Nat)=>(i:Int)).Pairwise (·<·):=by
 rw[List.pairwise_map];exact(List.pairwise_lt_range (n:=n)).imp fun h=>by omega
set_option linter.all false
def Zj8(r0 r1 r2 r3:Int)(S:List Rs):Bool:=Z20 r0 r1 r2 r3 S (upL S.length)
def ZR(S:List Rs)(l:List Int):List Rs:=l.filterMap fun i=>S[i.toNat]?
theorem somS_mem{S:List Rs}{l:List Int}{s:Rs}:s∈ZR S l↔∃i∈l,S[i.toNat]? =some s:=List.mem_filterMap
theorem Zj2{S:List Rs}:∀{l:List Int},(∀i∈l,0<=i/\i<S.length)->(ZR S l).length=l.length
 |[],_=>rfl
 |i::l,h=>by
  have h0:=h i (by simp);obtain⟨s,hs⟩:∃s,S[i.toNat]? =some s:=⟨_,List.getElem?_eq_getElem (by omega)⟩;have e:ZR S (i::l)=s::ZR S l:=List.filterMap_cons_some (f:=fun(i:Int)=>S[i.toNat]?) hs;rw[e,List.length_cons,List.length_cons];congr 1;exact Zj2 fun j hj=>h j (by simp[hj])
theorem Zjl{S:List Rs}{l:List Int}{i:Int}{s:Rs}(h:S[i.toNat]? =some s):ZR S (l++[i])=ZR S l++[s]:=by
 rw[ZR,List.filterMap_append,ZR];congr 1;exact List.filterMap_cons_some (f:=fun(i:Int)=>S[i.toNat]?) h
theorem Zjf{x y:Int}(hx:x=0)(hy:y=0):firstV [x,y]=0:=by
 rw[firstV,if_pos hx,firstV,if_pos hy];rfl
theorem Zjm{r0 r1 r2 r3:Int}{S T:List Rs}(h:ZC r0 r1 r2 r3 S=0)(hl:T.length<=8)(hT:∀t∈T,t∈S):ZC r0 r1 r2 r3 T=0:=by
 obtain⟨h1,_,h3⟩:=Z0i h;refine Zjf h1 ?_;rw[Z23,if_neg (by omega),if_pos];rw[List.all_eq_true];exact fun t ht=>h3 t (hT t ht)
theorem Zjn{r0 r1 r2 r3:Int}{S:List Rs}(hc:CardOk r0 r1 r2 r3 S):Zj8 r0 r1 r2 r3 S=true↔∀s∈S,∀t∈S,Z6W r0 r1 r2 r3 s t:=by
 rw[Zj8,Z8D hc (fun p hp=>mem_upL.1 hp)];constructor
 ·intro h s hs t ht;obtain⟨i,hi⟩:=List.mem_iff_getElem?.1 hs;obtain⟨j,hj⟩:=List.mem_iff_getElem?.1 ht;have h1:=(List.getElem?_eq_some_iff.1 hi).1;have h2:=(List.getElem?_eq_some_iff.1 hj).1;exact h i (mem_upL.2 (by omega)) j (mem_upL.2 (by omega)) s t (by simpa using hi) (by simpa using hj)
 ·intro h i _ j _ s t hs ht;exact h s (List.mem_of_getElem? hs) t (List.mem_of_getElem? ht)
section
variable {r0 r1 r2 r3:Int} {S:List Rs} (hc:ZC r0 r1 r2 r3 S=0)
include hc
theorem Zjc{l:List Int}(hl:∀i∈l,0<=i/\i<S.length)(h8:l.length<=8):ZC r0 r1 r2 r3 (ZR S l)=0:=
 Zjm hc (by rw[Zj2 hl];exact h8) fun t ht=>by obtain⟨i,_,hi⟩:=somS_mem.1 ht;exact List.mem_of_getElem? hi
theorem Zjq{l:List Int}(hl:∀i∈l,0<=i/\i<S.length)(h8:l.length<=8):Zj8 r0 r1 r2 r3 (ZR S l)=Z20 r0 r1 r2 r3 S l:=by
 rw[Bool.eq_iff_iff,Zjn (Zav (Zjc hc hl h8)),Z8D (Zav hc) hl];constructor
 ·intro h i hi j hj s t hs ht;exact h s (somS_mem.2 ⟨i,hi,hs⟩) t (somS_mem.2 ⟨j,hj,ht⟩)
 ·intro h s hs t ht;obtain⟨i,hi,hs⟩:=somS_mem.1 hs;obtain⟨j,hj,ht⟩:=somS_mem.1 ht;exact h i hi j hj s t hs ht
theorem Zj3{l k:List Int}(hl:∀i∈l,0<=i/\i<S.length)(hk:∀i∈k,i∈l)(h:Z20 r0 r1 r2 r3 S l=true):Z20 r0 r1 r2 r3 S k=true:=by
 rw[Z8D (Zav hc) (fun p hp=>hl p (hk p hp))];rw[Z8D (Zav hc) hl] at h;exact fun i hi j hj s t hs ht=>h i (hk i hi) j (hk j hj) s t hs ht
omit hc
theorem Zj9(n:Nat):(upL n).Pairwise (·<·):=ZgK n
theorem Zj5(n:Nat):(upL n).length=n:=by simp[upL]
theorem ZiY{n:Nat}{l:List Int}(h:l∈chooseR (upL n)):l.Pairwise (·<·)/\(∀i∈l,0<=i/\i<n)/\l.length<=n/\Zq n l=0:=by
 have hs:=(chooseR_iff _ _).1 h;have h1:=(Zj9 n).sublist hs;have h2:∀i∈l,0<=i/\i<n:=fun i hi=>mem_upL.1 (hs.subset hi)
 exact⟨h1,h2,by have:=hs.length_le;rwa [Zj5] at this,ZeE h1 h2⟩
end
structure Clsh(r0 r1 r2 r3:Int)(S:List Rs)(C T:List Int):Prop where
 ck:C∈chooseR (upL S.length)
 tk:T∈chooseR (upL S.length)
 fit:Z20 r0 r1 r2 r3 S T=true
 none_:Zj8 r0 r1 r2 r3 S=true->C=[]
 two:Zj8 r0 r1 r2 r3 S=false->C.length=2/\Z20 r0 r1 r2 r3 S C=false
 first:∀l,l∈chooseR (upL S.length)->l.length=2->Z20 r0 r1 r2 r3 S l=false->lessL l C=false
 most:∀l,l∈chooseR (upL S.length)->Z20 r0 r1 r2 r3 S l=true->l.length<T.length\/(l.length=T.length/\lessL l T=false)
section
variable {r0 r1 r2 r3:Int} {S:List Rs} {C T:List Int} (hc:ZC r0 r1 r2 r3 S=0) (h:Clsh r0 r1 r2 r3 S C T)
include h
include hc
end
end Go.Proofs.Tryq
namespace Go.Proofs.Tryq
set_option maxRecDepth 100000
set_option maxHeartbeats 4000000
open Go Go.Nk Go.RowKit
set_option linter.all false
theorem OwnS.le{w:World}{b b2:Nat}{v:Value}{S:List Rs}(h:OwnS b w v S)(hb:b2<=b):OwnS b2 w v S:=Z05 h hb
theorem OwnS.raw{w:World}{b:Nat}{v:Value}{S:List Rs}(h:OwnS b w v S):∃bl cl,v= .slice bl S.length cl/\RawS w bl S/\S.length<=cl:=by
 by_cases h0:0<S.length
 ·obtain⟨g,cap,rfl,_,_,hr,hc,_⟩:=h.form h0;exact⟨_,cap,rfl,hr,hc⟩
 ·have:S=[]:=List.eq_nil_of_length_eq_zero (by omega);subst this;rcases h.2 with⟨rfl,_⟩|⟨g,cap,cur,rfl,_⟩
  ·exact⟨none,0,rfl,fun i s hs=>by simp at hs,Nat.le_refl _⟩
  ·exact⟨_,cap,rfl,fun i s hs=>by simp at hs,Nat.zero_le _⟩
theorem OwnS.same{w w':World}{b:Nat}{v:Value}{S:List Rs}(h:OwnS b w v S)(e:∀k,v.ownBlock=some k->w'.heap[k]? =w.heap[k]?):OwnS b w' v S:=Z3d h e
theorem Zjr(r0 r1 r2 r3:Int)(base:Option Addr)(n cap:Nat)(S:List Rs)(bl:Option Addr)(k cl:Nat)(l:List Int)(w:World)(A1:S.length=n)(hk:l.length=k)(Oi:k<=20)(hn:n<=20)(An:∀j∈l,0<=j/\j<S.length)(hS:RawS w base S)(hl:RawI w bl l):
 Calls prog 72 #[.agg #[.int .i64 r0,.int .i64 r1,.int .i64 r2,.int .i64 r3,.slice base n cap],.slice bl k cl] w fun e w'=>∃v,e= .returned (.agg #[.int .i64 r0,.int .i64 r1,.int .i64 r2,.int .i64 r3,v])/\OwnS w.heap.size w' v (ZR S l)/\Ext w w':=by
 have Di:Hid (RawS w base S):=hS;have Cw:Hid (RawI w bl l):=hl;replace hk:Hid (l.length=k):=hk;replace A1:Hid (S.length=n):=A1;replace An:Hid (∀j∈l,0<=j/\j<S.length):=An;clear hS hl;obtain⟨N,hN⟩:∃N,N=w.heap.size+1+1+1:=⟨_,rfl⟩;have Bj:=(((Ext.rfl' w).alloc (.cells #[.int .i64 r0,.int .i64 r1,.int .i64 r2,.int .i64 r3,.slice base n cap] 70)).alloc (.cells #[.int .i64 0,.int .i64 0,.int .i64 0,.int .i64 0,.slice none 0 0] 70)).alloc (.cells #[.int .i64 r0,.int .i64 r1,.int .i64 r2,.int .i64 r3,.slice none 0 0] 70);have Bf:(((w.alloc (.cells #[.int .i64 r0,.int .i64 r1,.int .i64 r2,.int .i64 r3,.slice base n cap] 70)).alloc (.cells #[.int .i64 0,.int .i64 0,.int .i64 0,.int .i64 0,.slice none 0 0] 70)).alloc (.cells #[.int .i64 r0,.int .i64 r1,.int .i64 r2,.int .i64 r3,.slice none 0 0] 70)).heap[w.heap.size]? =some (.cells #[.int .i64 r0,.int .i64 r1,.int .i64 r2,.int .i64 r3,.slice base n cap] 70):=by simp only[Z3,Z2];rw[if_neg (by omega),if_neg (by omega),if_pos trivial]
 have De:(((w.alloc (.cells #[.int .i64 r0,.int .i64 r1,.int .i64 r2,.int .i64 r3,.slice base n cap] 70)).alloc (.cells #[.int .i64 0,.int .i64 0,.int .i64 0,.int .i64 0,.slice none 0 0] 70)).alloc (.cells #[.int .i64 r0,.int .i64 r1,.int .i64 r2,.int .i64 r3,.slice none 0 0] 70)).heap[w.heap.size+1]? =some (.cells #[.int .i64 0,.int .i64 0,.int .i64 0,.int .i64 0,.slice none 0 0] 70):=by simp only[Z3,Z2];rw[if_neg (by omega),if_pos trivial]
 have D4:(((w.alloc (.cells #[.int .i64 r0,.int .i64 r1,.int .i64 r2,.int .i64 r3,.slice base n cap] 70)).alloc (.cells #[.int .i64 0,.int .i64 0,.int .i64 0,.int .i64 0,.slice none 0 0] 70)).alloc (.cells #[.int .i64 r0,.int .i64 r1,.int .i64 r2,.int .i64 r3,.slice none 0 0] 70)).heap[w.heap.size+1+1]? =some (.cells #[.int .i64 r0,.int .i64 r1,.int .i64 r2,.int .i64 r3,.slice none 0 0] 70):=by simp only[Z3,Z2];rw[if_pos trivial]
 go_enter func72,ntmps72;go_wp2;generalize World.alloc _ _=w1 at Bj Bf De D4⊢;go_loopw [6] (fun v6 wr=>∃(i:Nat)(u:Value),i<=k/\v6= .int .i64 i/\Ext w wr/\wr.heap[w.heap.size]? =some (.cells #[.int .i64 r0,.int .i64 r1,.int .i64 r2,.int .i64 r3,.slice base n cap] 70)/\wr.heap[w.heap.size+1]? =some (.cells #[.int .i64 0,.int .i64 0,.int .i64 0,.int .i64 0,.slice none 0 0] 70)/\wr.heap[w.heap.size+1+1]? =some (.cells #[.int .i64 r0,.int .i64 r1,.int .i64 r2,.int .i64 r3,u] 70)/\OwnS N wr u (ZR S (l.take i))) (fun v6 _=>k - (intOf v6).toNat)
 case atStart=>exact⟨0,_,Nat.zero_le _,rfl,Bj,Bf,De,D4,World.ownsRow_nil _ _ _ _⟩
 case round=>
  clear Bj Bf De D4;obtain⟨i,u,hi,rfl,hE,Ax,Av,A9,hO⟩:=hrel;have hNw:N<=wr.heap.size:=by have:=Z5 A9;omega
  by_cases J3:i=k
  ·have HR:Hid (ZR S (l.take i)=ZR S l):=by show _=_;rw[J3,<-hk.out,List.take_length]
   subst J3;have x0:=Z0 A9 0;have x1:=Z0 A9 1;have x2:=Z0 A9 2;have x3:=Z0 A9 3;have x4:=Z0 A9 4;have y0:=Z0 Av 0;have y1:=Z0 Av 1;have y2:=Z0 Av 2;have y3:=Z0 Av 3;have y4:=Z0 Av 4;have f0:=Z8 Av 0;have f1:=Z8 Av 1;have f2:=Z8 Av 2;have f3:=Z8 Av 3;have f4:=Z8 Av 4;simp only[List.getElem?_toArray,List.getElem?_cons_zero,List.getElem?_cons_succ] at x0 x1 x2 x3 x4 y0 y1 y2 y3 y4;have I2:=ZiD Av (.int .i64 r0) (.int .i64 r1) (.int .i64 r2) (.int .i64 r3) u;have I0:=ZiE hE (show w.heap.size<=w.heap.size+1 by omega) (.int .i64 r0) (.int .i64 r1) (.int .i64 r2) (.int .i64 r3) u;have Nq:=hO.same (fun k hk=>ZiG wr (b:=w.heap.size+1) (show k≠w.heap.size+1 by have:=(hO.lt k hk).1;omega) (.int .i64 r0) (.int .i64 r1) (.int .i64 r2) (.int .i64 r3) u);rw[HR.out] at Nq;unfold ZjW at I2 I0 Nq;obtain⟨bu,cu,rfl,_,_⟩:=hO.raw;clear Ax Av A9 hO hE;go_wp2;have j0:=Z0 I2 0;have j1:=Z0 I2 1;have j2:=Z0 I2 2;have j3:=Z0 I2 3;have j4:=Z0 I2 4;simp only[List.getElem?_toArray,List.getElem?_cons_zero,List.getElem?_cons_succ] at j0 j1 j2 j3 j4;refine bodyPost_ret (v:= .agg #[.int .i64 r0,.int .i64 r1,.int .i64 r2,.int .i64 r3,_]) ((Z07 rfl _ _ _).trans ?_) rfl ⟨_,rfl,OwnS.le Nq (by omega),I0⟩
   simp[go_sem,j0,j1,j2,j3,j4]
  ·have A3:i<k:=by omega
   have Ce:(i:Int)<(k:Int):=by omega
   obtain⟨x,hx⟩:∃x,l[i]? =some x:=⟨_,List.getElem?_eq_getElem (by have:=hk.out;omega)⟩;have Tn:=An.out x (List.mem_of_getElem? hx);obtain⟨J,rfl⟩:=Int.eq_ofNat_of_zero_le Tn.1;have hJ:J<S.length:=by omega
   have Y0:J<n:=by have:=A1.out;omega
   obtain⟨s,hs⟩:∃s,S[J]? =some s:=⟨_,List.getElem?_eq_getElem hJ⟩;have HN:Hid (ZR S (l.take (i+1))=ZR S (l.take i)++[s]):=by
    show _=_;rw[List.take_succ,hx];exact Zjl (by simpa using hs)
   have S5:(ZR S (l.take i)).length<=20:=by
    rw[Zj2 (fun j hj=>An.out j (List.mem_of_mem_take hj)),List.length_take];omega
   obtain⟨bb,ob,rfl,Pj,hcx⟩:=Cw.out i _ hx;obtain⟨bs,os,rfl,Ex,shx⟩:=Di.out J s hs;have hnb:¬N<=bb:=by omega
   have Dw:¬N<=bs:=by omega
   clear hx Tn hs hJ;go_wp2_with fail;refine Zjj (ExtX fun q=>N<=q) 13 (by kernel_rfl) ?_;have hD:=(Ext.rfl' wr).drew;have Fj:=hE.trans hD;have Fy:=hO.ext hD;have Fa:=hD.get Ax;have Or:=hD.get Av;have Fb:=hD.get A9;have E0:=Fj.cellS hcx;have z0:=Fj.cellS shx.c0;have z1:=Fj.cellS shx.c1;have z2:=Fj.cellS shx.c2;have z3:=Fj.cellS shx.c3;have z4:=Fj.cellS shx.c4;have Ot:N<=wr.drew.heap.size:=Nat.le_trans hNw hD.size;generalize wr.drew=Wd at Fj Fy Fa Or Fb E0 z0 z1 z2 z3 z4 Ot⊢;clear hE hO Ax Av A9 hD hcx shx;have y4:=Z0 Fa 4;have x4:=Z0 Fb 4;simp only[List.getElem?_toArray,List.getElem?_cons_zero,List.getElem?_cons_succ] at y4 x4;have gc:=GrE.cell (X:=fun q=>N<=q) hnb E0;have gz0:=GrE.cell (X:=fun q=>N<=q) Dw z0;have gz1:=GrE.cell (X:=fun q=>N<=q) Dw z1;have gz2:=GrE.cell (X:=fun q=>N<=q) Dw z2;have gz3:=GrE.cell (X:=fun q=>N<=q) Dw z3;have gz4:=GrE.cell (X:=fun q=>N<=q) Dw z4;have gy:=GrE.cell (X:=fun q=>N<=q) (show¬N<=w.heap.size by omega) y4;have gx:=GrE.cell (X:=fun q=>N<=q) (show¬N<=w.heap.size+1+1 by omega) x4;refine Zjb (ExtX.pre _) [0,1,2,3,4,5,6,7,8,9] (by kernel_rfl) (by kernel_rfl) ?_;simp only[ZeD,List.getElem?_cons_succ,List.getElem?_cons_zero,List.cons_append,List.nil_append]
   repeat (go_big_quiet_step (fail))
   refine wpQuiet_nil ?_;refine Zj7 10 rfl (by kernel_rfl) rfl ?_;clear gc gz0 gz1 gz2 gz3 gz4 gy gx;refine Zf3 ⟨.slice (some ⟨Wd.heap.size,0,none⟩) 1 1,Wd.alloc (.cells #[.int .i64 s.a,.int .i64 s.m,.int .i64 s.M,.int .i64 s.wi,.int .i64 s.li] 80),by simp[go_sem,execOp,Act.eval],fun _=>Go.Nk.Ext.toX ((Ext.rfl' _).alloc _) _,?_⟩;have Gb:(Wd.alloc (.cells #[.int .i64 s.a,.int .i64 s.m,.int .i64 s.M,.int .i64 s.wi,.int .i64 s.li] 80)).heap[Wd.heap.size]? =some (.cells #[.int .i64 s.a,.int .i64 s.m,.int .i64 s.M,.int .i64 s.wi,.int .i64 s.li] 80):=by rw[Z3,if_pos rfl]
   have eA:=(Ext.rfl' Wd).alloc (.cells #[.int .i64 s.a,.int .i64 s.m,.int .i64 s.M,.int .i64 s.wi,.int .i64 s.li] 80);generalize Wd.alloc _=WA at Gb eA⊢;go_simp;refine Zj7 11 rfl (by kernel_rfl) rfl ?_;refine Zix _ _ rfl N u (ZR S (l.take i)) rfl (Fy.ext eA) ⟨Wd.heap.size,0,none⟩ 1 [s] rfl (by intro j v hj;have e5:Ziv [s]=[.int .i64 s.a,.int .i64 s.m,.int .i64 s.M,.int .i64 s.wi,.int .i64 s.li]:=rfl;rw[e5] at hj;rw[Z0c,Z0 Gb];simpa using hj) (by simp only[List.length_cons,List.length_nil];omega) (Nat.le_trans Ot eA.size) (fun v' W3 own3 Ib=>⟨fun _=>Zhv Ib (fun k hk=>by have h1:=(Fy.lt k hk).1;show _<=k;omega),?_⟩);obtain⟨g3,cp3,rfl,_⟩:=own3.form (by simp);have Ba:∀b,b<N->W3.heap[b]? =Wd.heap[b]? :=fun b hb=>(Ib.block b (by have:=eA.size;omega) (by intro e;have:=(Fy.lt b e.symm).1;omega)).trans (eA.old b (by omega))
   have e3:Ext w W3:=(Fj.trans eA).grown Ib (fun k hk=>by have:=(Fy.lt k hk).1;omega);have Jm:=(Ba _ (by omega)).trans Fa;have To:=(Ba _ (by omega)).trans Or;have Fc:=(Ba _ (by omega)).trans Fb;clear Ba Ib Gb eA Fy Fa Or Fb E0 z0 z1 z2 z3 z4 y4 x4 Fj Ot;have k4:=Z0 Fc 4;have f4:=Z8 Fc 4;simp only[List.getElem?_toArray,List.getElem?_cons_zero,List.getElem?_cons_succ] at k4;go_simp;refine Zjb (ExtX.pre _) [12] (by kernel_rfl) (by kernel_rfl) ?_;simp only[ZeD,List.getElem?_cons_succ,List.getElem?_cons_zero,List.cons_append,List.nil_append]
   repeat (go_big_quiet_step (fail))
   refine wpQuiet_nil ?_;refine Zj7 13 rfl (by kernel_rfl) rfl ?_;refine Zie ⟨W3.setCell ⟨w.heap.size+1+1,4,none⟩ (.slice (some ⟨g3,0,none⟩) (ZR S (l.take i)++[s]).length cp3),by simp[go_sem,execOp,Act.eval,k4,f4],fun h=>absurd h (by decide),?_⟩;have Mk:=own3.same (fun k hk=>set_ne (w:=W3) (a:=⟨w.heap.size+1+1,4,none⟩) (show k≠w.heap.size+1+1 by have:=(own3.lt k hk).1;omega) (.slice (some ⟨g3,0,none⟩) (ZR S (l.take i)++[s]).length cp3));have Jn:=Zb (i:=4) Fc (.slice (some ⟨g3,0,none⟩) (ZR S (l.take i)++[s]).length cp3);have Jo:=(set_ne (w:=W3) (a:=⟨w.heap.size+1+1,4,none⟩) (show w.heap.size≠w.heap.size+1+1 by omega) (.slice (some ⟨g3,0,none⟩) (ZR S (l.take i)++[s]).length cp3)).trans Jm;have Tp:=(set_ne (w:=W3) (a:=⟨w.heap.size+1+1,4,none⟩) (show w.heap.size+1≠w.heap.size+1+1 by omega) (.slice (some ⟨g3,0,none⟩) (ZR S (l.take i)++[s]).length cp3)).trans To;have e4:=e3.setCell ⟨w.heap.size+1+1,4,none⟩ (.slice (some ⟨g3,0,none⟩) (ZR S (l.take i)++[s]).length cp3) (show w.heap.size<=w.heap.size+1+1 by omega);clear Jm To Fc e3 own3 k4 f4;generalize W3.setCell _ _=W4 at Mk Jn Jo Tp e4⊢;go_simp;refine Zjw (by kernel_rfl) ?_;go_wp2;exact⟨⟨i+1,_,by omega,by push_cast;rfl,e4,Jo,Tp,Jn,by rw[HN.out];exact Mk⟩,by simp[intOf];omega⟩
end Go.Proofs.Tryq
