import Derived.Test.YtedkbdkbbnemlaaGreatDoorNk28
set_option linter.all false
namespace Go.Proofs.Tryq
set_option maxRecDepth 100000
set_option maxHeartbeats 8000000
open Go Go.Nk Go.RowKit
theorem u68:prog.underlying 68=some (.slice 80):=(underlying_eq 68).trans Tryz.underlying68
theorem i80:prog.info? 80=some Tryz.t80:=by kernel_rfl
theorem t80z:Tryz.t80.zero=some (.agg #[.int .i64 0,.int .i64 0,.int .i64 0,.int .i64 0,.int .i64 0]):=by kernel_rfl
theorem t80s:Tryz.t80.size=5:=by kernel_rfl
theorem t80b:Tryz.t80.bytes=40:=by kernel_rfl
theorem ZaN{w:World}{b:Nat}{A:List Ap}{C:Array Value}(h:w.heap[b]? =some (.cells C 46))(hC:C.toList=A.flatMap apC):RawAp w (some ⟨b,0,none⟩) A:=by
 have key:∀(A:List Ap)(i j:Nat)(x:Ap),A[i]? =some x->j<4->(A.flatMap apC)[i*4+j]? =(apC x)[j]? :=by
  intro A
  induction A with
  |nil=>intro i j x h;simp at h
  |cons y A ih=>
   intro i j x hx hj;rw[List.flatMap_cons];have hl:(apC y).length=4:=rfl;cases i with
   |zero=>
    simp at hx;subst hx;rw[List.getElem?_append_left (by omega)];simp
   |succ i=>
    rw[List.getElem?_append_right (by omega),hl,show(i+1)*4+j - 4=i*4+j by omega];exact ih i j x (by simpa using hx) hj
 intro i x hx;have hc:∀j,j<4->w.cell? ⟨b,0+i*4+j,none⟩=(apC x)[j]? :=by
  intro j hj;rw[Z0 h,Nat.zero_add,<-Array.getElem?_toList,hC,key A i j x hx hj]
 exact⟨b,0,rfl,Z5 h,hc 0 (by omega),hc 1 (by omega),hc 2 (by omega),hc 3 (by omega)⟩
theorem Zcc{w:World}{b:Nat}{x0 x1 x2 y0 y1 y2:Int}(h0:w.heap[b]? =some (.cells #[.int .i64 x0,.int .i64 x1,.int .i64 x2] 3))(h1:w.heap[b+1]? =some (.cells #[.int .i64 y0,.int .i64 y1,.int .i64 y2] 3))
 (h2:w.heap[b+1+1]? =some (.cells #[.slice (some ⟨b,0,none⟩) 3 3,.slice (some ⟨b+1,0,none⟩) 3 3] 27)):RawL w (some ⟨b+1+1,0,none⟩) [[x0,x1,x2],[y0,y1,y2]]:=by
 intro i l hl
 match i,hl with
 |0,hl=>
  obtain rfl:=Option.some.inj hl;exact⟨b+1+1,0,_,3,rfl,Z5 h2,by rw[Z0 h2];rfl,by simp,Z0V h0 rfl⟩
 |1,hl=>
  obtain rfl:=Option.some.inj hl;exact⟨b+1+1,0,_,3,rfl,Z5 h2,by rw[Z0 h2];rfl,by simp,Z0V h1 rfl⟩
theorem Zcd{w:World}{b base:Nat}(h:w.heap[b]? =some (.cells #[] 80))(hb:base<=b):w.ownsRow base 80 5 (.slice (some ⟨b,0,none⟩) 0 0) 0 []:=⟨rfl,.inr ⟨b,0,#[],rfl,hb,h,Nat.le_refl _,by simp[maxLen],rfl,rfl⟩⟩
theorem OwnAp.rawAp{b:Nat}{w:World}{v:Value}{A:List Ap}(h:OwnAp b w v A):∃ao cp,v= .slice ao A.length cp/\RawAp w ao A:=by
 by_cases h0:A=[]
 ·subst h0;rcases h.2 with⟨rfl,_⟩|⟨g,cp,_,rfl,_⟩
  ·exact⟨none,0,rfl,fun i x hx=>by simp at hx⟩
  ·exact⟨_,cp,rfl,fun i x hx=>by simp at hx⟩
 ·have hp:0<A.length:=List.length_pos_iff.2 h0;obtain⟨g,cp,rfl,_,hg⟩:=World.ownsRow.form h hp;refine⟨_,cp,rfl,fun i x hx=> ?_⟩;have key:∀(A:List Ap)(i j:Nat)(x:Ap),A[i]? =some x->j<4->(A.flatMap apC)[i*4+j]? =(apC x)[j]? :=by
   intro A
   induction A with
   |nil=>intro i j x h;simp at h
   |cons y A ih=>
    intro i j x hx hj;rw[List.flatMap_cons];have hl:(apC y).length=4:=rfl;cases i with
    |zero=>
     simp at hx;subst hx;rw[List.getElem?_append_left (by omega)];simp
    |succ i=>
     rw[List.getElem?_append_right (by omega),hl,show(i+1)*4+j - 4=i*4+j by omega];exact ih i j x (by simpa using hx) hj
  have hc:∀j u,j<4->(apC x)[j]? =some u->w.cell? ⟨g,0+i*4+j,none⟩=some u:=by
   intro j u hj hu;have h2:=h.cells (g:=g) rfl (i*4+j) u (by rw[key A i j x hx hj];exact hu);rw[Z0c] at h2;rw[Nat.zero_add];exact h2
  exact⟨g,0,rfl,hg,hc 0 _ (by omega) rfl,hc 1 _ (by omega) rfl,hc 2 _ (by omega) rfl,hc 3 _ (by omega) rfl⟩
theorem Zce(w:World)(hM:Meas w)(Dv:Most w)(hd:Deb w):Calls prog 22 #[] w fun e w'=>e= .returned (.bool true)/\Ext w w':=by
 go_enter func22,ntmps22;go_wp2_with fail;refine(Z6U _).mono ?_;rintro e wA ⟨B,rfl,hBe,hEA⟩;rename_i Q K hK;refine hK _ _ ?_;clear hK;go_wp2_with fail;refine(Zar _).mono ?_;rintro e w0 ⟨D,rfl,hDe,hEB⟩;have G5:=hEA.trans hEB;have J4:=ZdF (hEB.get hBe);have Ow:RawS w0 (some ⟨D,0,none⟩) exS:=Z6Y hDe rfl;have Qk:=hM.ext G5;have Bp:=Dv.ext G5;have W6:=hd.ext G5;have D5:=Ext.rfl' w0;rename_i Q K hK;refine hK _ _ ?_;clear hK;go_wp2_with fail;refine(Z59 [0,1,2] 3 1 rfl (by decide) v_m1 B _ _ (Qk.ext ((((D5.alloc _).alloc _).alloc _))) (J4.ext ((((D5.alloc _).alloc _).alloc _))) (Z0V (l:=[0,1,2]) (by simp only[Z3,Z2];exact if_pos trivial) rfl)).mono ?_;rintro e w1 ⟨rfl,hE⟩;have D0:Ext w0 w1:=((((Ext.rfl' w0).alloc _).alloc _).alloc _).trans hE;have gs1:w1.heap[w0.heap.size]? =some (.cells #[.int .i64 10,.int .i64 2,.int .i64 5,.int .i64 3,.slice (some ⟨B,0,none⟩) 7 7] 26):=hE.get (by simp only[Z3,Z2];rw[if_neg (by omega),if_neg (by omega),if_pos trivial]);have gc1:w1.heap[w0.heap.size+1]? =some (.cells #[.int .i64 2,.int .i64 4,.int .i64 1,.int .i64 2,.slice (some ⟨D,0,none⟩) 3 3] 70):=hE.get (by simp only[Z3,Z2];rw[if_neg (by omega),if_pos trivial]);have Eb:=D5.trans D0;clear hE
 have Yg:=Z5 gc1;have Yh:=Z5 gs1;have q0:=Z0 gs1 0;have q1:=Z0 gs1 1;have q2:=Z0 gs1 2;have q3:=Z0 gs1 3;have q4:=Z0 gs1 4;have r0:=Z0 gc1 0;have r1:=Z0 gc1 1;have r2:=Z0 gc1 2;have r3:=Z0 gc1 3;have r4:=Z0 gc1 4;simp only[List.getElem?_toArray,List.getElem?_cons_zero,List.getElem?_cons_succ] at q0 r0 q1 r1 q2 r2 q3 r3 q4 r4;rename_i Q K hK;refine hK _ _ ?_;clear hK;go_wp2_with fail;refine(Z59 [0,3] 2 0 rfl (by decide) v_m2 B _ _ (Qk.ext ((Eb.alloc _))) (J4.ext ((Eb.alloc _))) (Z0V (l:=[0,3]) (by simp only[Z3,Z2];exact if_pos trivial) rfl)).mono ?_;rintro e w2 ⟨rfl,hE⟩;have D6:Ext w1 w2:=((Ext.rfl' w1).alloc _).trans hE;have gs2:=D6.get gs1;have gc2:=D6.get gc1;have E0:=Eb.trans D6;clear hE;have Ew:=Z5 gc2;have Yi:=Z5 gs2;clear Yg Yh;clear q0 r0 q1 r1 q2 r2 q3 r3 q4 r4;have q0:=Z0 gs2 0;have q1:=Z0 gs2 1;have q2:=Z0 gs2 2;have q3:=Z0 gs2 3;have q4:=Z0 gs2 4;have r0:=Z0 gc2 0;have r1:=Z0 gc2 1;have r2:=Z0 gc2 2;have r3:=Z0 gc2 3;have r4:=Z0 gc2 4;simp only[List.getElem?_toArray,List.getElem?_cons_zero,List.getElem?_cons_succ] at q0 r0 q1 r1 q2 r2 q3 r3 q4 r4;rename_i Q K hK;refine hK _ _ ?_;clear hK;go_wp2_with fail;refine(Z59 [0,6] 2 2 rfl (by decide) v_m3 B _ _ (Qk.ext ((E0.alloc _))) (J4.ext ((E0.alloc _))) (Z0V (l:=[0,6]) (by simp only[Z3,Z2];exact if_pos trivial) rfl)).mono ?_
 rintro e w3 ⟨rfl,hE⟩;have Eh:Ext w2 w3:=((Ext.rfl' w2).alloc _).trans hE;have gs3:=Eh.get gs2;have gc3:=Eh.get gc2;have Q0:=E0.trans Eh;clear hE;have S6:=Z5 gc3;have Yj:=Z5 gs3;clear Ew Yi;clear q0 r0 q1 r1 q2 r2 q3 r3 q4 r4;have q0:=Z0 gs3 0;have q1:=Z0 gs3 1;have q2:=Z0 gs3 2;have q3:=Z0 gs3 3;have q4:=Z0 gs3 4;have r0:=Z0 gc3 0;have r1:=Z0 gc3 1;have r2:=Z0 gc3 2;have r3:=Z0 gc3 3;have r4:=Z0 gc3 4;simp only[List.getElem?_toArray,List.getElem?_cons_zero,List.getElem?_cons_succ] at q0 r0 q1 r1 q2 r2 q3 r3 q4 r4;rename_i Q K hK;refine hK _ _ ?_;clear hK;go_wp2_with fail;refine(Zc9 B _ _ (Qk.ext ((Q0.alloc _))) (J4.ext ((Q0.alloc _))) (Z0V (l:=[0,2,3]) (by simp only[Z3,Z2];exact if_pos trivial) rfl)).mono ?_;rintro e w4 ⟨v9,rfl,hv9,hE⟩;have Ex:Ext w3 w4:=((Ext.rfl' w3).alloc _).trans hE;have gs4:=Ex.get gs3;have gc4:=Ex.get gc3;have Vj:=Q0.trans Ex;obtain⟨a9,c9,rfl,Hs⟩:=hv9.rawAp;rw[v_ap.2.2];clear hE;have Yk:=Z5 gc4;have Yl:=Z5 gs4;clear S6 Yj;clear q0 r0 q1 r1 q2 r2 q3 r3 q4 r4;have q0:=Z0 gs4 0;have q1:=Z0 gs4 1;have q2:=Z0 gs4 2;have q3:=Z0 gs4 3;have q4:=Z0 gs4 4;have r0:=Z0 gc4 0;have r1:=Z0 gc4 1;have r2:=Z0 gc4 2;have r3:=Z0 gc4 3;have r4:=Z0 gc4 4
 simp only[List.getElem?_toArray,List.getElem?_cons_zero,List.getElem?_cons_succ] at q0 r0 q1 r1 q2 r2 q3 r3 q4 r4;rename_i Q K hK;refine hK _ _ ?_;clear hK;go_wp2_with fail;refine(ZdC B _ (Qk.ext Vj) (J4.ext Vj)).mono ?_;rintro e w5 ⟨v11,v12,rfl,Ym,Yn,hE⟩;have Pt:Ext w4 w5:=hE;have gs5:=Pt.get gs4;have gc5:=Pt.get gc4;have Q8:=Vj.trans Pt;obtain⟨a11,c11,rfl,Yo⟩:=Ym.rawL (by decide);obtain⟨a12,c12,rfl,Yp,Yq⟩:=Yn.rawI;clear Yq;clear hE;have Yr:=Z5 gc5;have Ys:=Z5 gs5;clear Yk Yl;clear q0 r0 q1 r1 q2 r2 q3 r3 q4 r4;have q0:=Z0 gs5 0;have q1:=Z0 gs5 1;have q2:=Z0 gs5 2;have q3:=Z0 gs5 3;have q4:=Z0 gs5 4;have r0:=Z0 gc5 0;have r1:=Z0 gc5 1;have r2:=Z0 gc5 2;have r3:=Z0 gc5 3;have r4:=Z0 gc5 4;simp only[List.getElem?_toArray,List.getElem?_cons_zero,List.getElem?_cons_succ] at q0 r0 q1 r1 q2 r2 q3 r3 q4 r4;rename_i Q K hK;refine hK _ _ ?_;clear hK;go_wp2_with fail;refine(Z8I B _ (Qk.ext Q8) (J4.ext Q8)).mono ?_;rintro e w6 ⟨rfl,hE⟩;have D2:Ext w5 w6:=hE;have gs6:=D2.get gs5;have gc6:=D2.get gc5;have Yt:=Q8.trans D2;clear hE;have Yu:=Z5 gc6;have Yv:=Z5 gs6;clear Yr Ys;clear q0 r0 q1 r1 q2 r2 q3 r3 q4 r4;have q0:=Z0 gs6 0;have q1:=Z0 gs6 1;have q2:=Z0 gs6 2;have q3:=Z0 gs6 3;have q4:=Z0 gs6 4
 have r0:=Z0 gc6 0;have r1:=Z0 gc6 1;have r2:=Z0 gc6 2;have r3:=Z0 gc6 3;have r4:=Z0 gc6 4;simp only[List.getElem?_toArray,List.getElem?_cons_zero,List.getElem?_cons_succ] at q0 r0 q1 r1 q2 r2 q3 r3 q4 r4;rename_i Q K hK;refine hK _ _ ?_;clear hK;go_wp2_with fail;refine(ZdD D _ (Ow.ext Yt)).mono ?_;rintro e w7 ⟨rfl,hE⟩;have Tp:Ext w6 w7:=hE;have gs7:=Tp.get gs6;have gc7:=Tp.get gc6;have Vk:=Yt.trans Tp;clear hE;have Yw:=Z5 gc7;have Yx:=Z5 gs7;clear Yu Yv;clear q0 r0 q1 r1 q2 r2 q3 r3 q4 r4;have q0:=Z0 gs7 0;have q1:=Z0 gs7 1;have q2:=Z0 gs7 2;have q3:=Z0 gs7 3;have q4:=Z0 gs7 4;have r0:=Z0 gc7 0;have r1:=Z0 gc7 1;have r2:=Z0 gc7 2;have r3:=Z0 gc7 3;have r4:=Z0 gc7 4;simp only[List.getElem?_toArray,List.getElem?_cons_zero,List.getElem?_cons_succ] at q0 r0 q1 r1 q2 r2 q3 r3 q4 r4;rename_i Q K hK;refine hK _ _ ?_;clear hK;go_wp2_with fail;refine(ZaK 30 93 100 rfl v_mk1 D _ (Ow.ext ((Vk.alloc _))) (Bp.ext ((Vk.alloc _)))).mono ?_;rintro e w8 ⟨rfl,hE⟩;have Tq:Ext w7 w8:=((Ext.rfl' w7).alloc _).trans hE;have gs8:=Tq.get gs7;have gc8:=Tq.get gc7;have Vl:=Vk.trans Tq;have gp8:w8.heap[w7.heap.size]? =some (.cells #[.int .i64 93,.int .i64 102] 48):=hE.get (by simp only[Z3,Z2];exact if_pos trivial)
 clear hE;have Yy:=Z5 gc8;have Yz:=Z5 gs8;clear Yw Yx;clear q0 r0 q1 r1 q2 r2 q3 r3 q4 r4;have q0:=Z0 gs8 0;have q1:=Z0 gs8 1;have q2:=Z0 gs8 2;have q3:=Z0 gs8 3;have q4:=Z0 gs8 4;have r0:=Z0 gc8 0;have r1:=Z0 gc8 1;have r2:=Z0 gc8 2;have r3:=Z0 gc8 3;have r4:=Z0 gc8 4;simp only[List.getElem?_toArray,List.getElem?_cons_zero,List.getElem?_cons_succ] at q0 r0 q1 r1 q2 r2 q3 r3 q4 r4;rename_i Q K hK;refine hK _ _ ?_;clear hK;go_wp2_with fail;refine(ZaK 25 73 80 rfl v_mk2 D _ (Ow.ext ((Vl.alloc _))) (Bp.ext ((Vl.alloc _)))).mono ?_;rintro e w9 ⟨rfl,hE⟩;have Hu:Ext w8 w9:=((Ext.rfl' w8).alloc _).trans hE;have gs9:=Hu.get gs8;have gc9:=Hu.get gc8;have Vm:=Vl.trans Hu;have gp9:w9.heap[w8.heap.size]? =some (.cells #[.int .i64 93,.int .i64 100] 48):=hE.get (by simp only[Z3,Z2];exact if_pos trivial);clear hE;have hlt9:=Z5 gc9;have hlu9:=Z5 gs9;clear Yy Yz;clear q0 r0 q1 r1 q2 r2 q3 r3 q4 r4;have q0:=Z0 gs9 0;have q1:=Z0 gs9 1;have q2:=Z0 gs9 2;have q3:=Z0 gs9 3;have q4:=Z0 gs9 4;have r0:=Z0 gc9 0;have r1:=Z0 gc9 1;have r2:=Z0 gc9 2;have r3:=Z0 gc9 3;have r4:=Z0 gc9 4;simp only[List.getElem?_toArray,List.getElem?_cons_zero,List.getElem?_cons_succ] at q0 r0 q1 r1 q2 r2 q3 r3 q4 r4
 rename_i Q K hK;refine hK _ _ ?_;clear hK;go_wp2_with fail;refine(ZaL 4 1 rfl v_h1 D _ (Ow.ext ((Vm.alloc _))) (Bp.ext ((Vm.alloc _)))).mono ?_;rintro e w10 ⟨rfl,hE⟩;have Jg:Ext w9 w10:=((Ext.rfl' w9).alloc _).trans hE;have gs10:=Jg.get gs9;have gc10:=Jg.get gc9;have Li:=Vm.trans Jg;have gp10:w10.heap[w9.heap.size]? =some (.cells #[.int .i64 73,.int .i64 80] 48):=hE.get (by simp only[Z3,Z2];exact if_pos trivial);clear hE;have Ts:=Z5 gc10;have Tt:=Z5 gs10;clear hlt9 hlu9;clear q0 r0 q1 r1 q2 r2 q3 r3 q4 r4;have q0:=Z0 gs10 0;have q1:=Z0 gs10 1;have q2:=Z0 gs10 2;have q3:=Z0 gs10 3;have q4:=Z0 gs10 4;have r0:=Z0 gc10 0;have r1:=Z0 gc10 1;have r2:=Z0 gc10 2;have r3:=Z0 gc10 3;have r4:=Z0 gc10 4;simp only[List.getElem?_toArray,List.getElem?_cons_zero,List.getElem?_cons_succ] at q0 r0 q1 r1 q2 r2 q3 r3 q4 r4;rename_i Q K hK;refine hK _ _ ?_;clear hK;go_wp2_with fail;refine(ZaL 3 0 rfl v_h2 D _ (Ow.ext Li) (Bp.ext Li)).mono ?_;rintro e w11 ⟨rfl,hE⟩;have Jh:Ext w10 w11:=hE;have gs11:=Jh.get gs10;have gc11:=Jh.get gc10;have Lj:=Li.trans Jh;clear hE;have Tu:=Z5 gc11;have Tv:=Z5 gs11;clear Ts Tt;clear q0 r0 q1 r1 q2 r2 q3 r3 q4 r4;have q0:=Z0 gs11 0;have q1:=Z0 gs11 1;have q2:=Z0 gs11 2;have q3:=Z0 gs11 3;have q4:=Z0 gs11 4
 have r0:=Z0 gc11 0;have r1:=Z0 gc11 1;have r2:=Z0 gc11 2;have r3:=Z0 gc11 3;have r4:=Z0 gc11 4;simp only[List.getElem?_toArray,List.getElem?_cons_zero,List.getElem?_cons_succ] at q0 r0 q1 r1 q2 r2 q3 r3 q4 r4;rename_i Q K hK;refine hK _ _ ?_;clear hK;go_wp2_with fail;refine(ZdE D _ (Ow.ext Lj) (Bp.ext Lj)).mono ?_;rintro e w12 ⟨rfl,hE⟩;have Ji:Ext w11 w12:=hE;have gs12:=Ji.get gs11;have gc12:=Ji.get gc11;have Ll:=Lj.trans Ji;clear hE;have Tw:=Z5 gc12;have Tx:=Z5 gs12;clear Tu Tv;clear q0 r0 q1 r1 q2 r2 q3 r3 q4 r4;have q0:=Z0 gs12 0;have q1:=Z0 gs12 1;have q2:=Z0 gs12 2;have q3:=Z0 gs12 3;have q4:=Z0 gs12 4;have r0:=Z0 gc12 0;have r1:=Z0 gc12 1;have r2:=Z0 gc12 2;have r3:=Z0 gc12 3;have r4:=Z0 gc12 4;simp only[List.getElem?_toArray,List.getElem?_cons_zero,List.getElem?_cons_succ] at q0 r0 q1 r1 q2 r2 q3 r3 q4 r4;rename_i Q K hK;refine hK _ _ ?_;clear hK;go_wp2_with fail;refine(ZaM D _ (Ow.ext Ll) (Bp.ext Ll)).mono ?_;rintro e w13 ⟨rfl,hE⟩;have Jj:Ext w12 w13:=hE;have gs13:=Jj.get gs12;have gc13:=Jj.get gc12;have Ox:=Ll.trans Jj;clear hE;have hlt13:=Z5 gc13;have hlu13:=Z5 gs13;clear Tw Tx;clear q0 r0 q1 r1 q2 r2 q3 r3 q4 r4;have q0:=Z0 gs13 0;have q1:=Z0 gs13 1;have q2:=Z0 gs13 2;have q3:=Z0 gs13 3;have q4:=Z0 gs13 4
 have r0:=Z0 gc13 0;have r1:=Z0 gc13 1;have r2:=Z0 gc13 2;have r3:=Z0 gc13 3;have r4:=Z0 gc13 4;simp only[List.getElem?_toArray,List.getElem?_cons_zero,List.getElem?_cons_succ] at q0 r0 q1 r1 q2 r2 q3 r3 q4 r4;rename_i Q K hK;refine hK _ _ ?_;clear hK;have hsz13:=Ox.size;have hDW:∀W,Ext w13 W->∀(j:Nat) u,(exS.flatMap rsC)[j]? =some u->W.cell? ((⟨D,0,none⟩:Addr).add j)=some u:=by
  intro W hW j u hu;rw[Z0c,Z0 (hW.get (Ox.get hDe)),<-Array.getElem?_toList];exact hu
 go_wp2_with (
  at_builtin
  go_loud (refine wpList_append_own _ rfl _ _ _ rfl (w13.heap.size+1+1) 80 Tryz.t80 (.agg #[.int .i64 0,.int .i64 0,.int .i64 0,.int .i64 0,.int .i64 0]) 5 40 u68 i80 t80z t80s t80b rfl (by omega) (.slice (some ⟨w13.heap.size+1+1,0,none⟩) 0 0) 0 [] rfl (Zcd (by simp only[Z3,Z2];exact if_pos trivial) (Nat.le_refl _)) ⟨D,0,none⟩ 3 3 (exS.flatMap rsC) rfl rfl (hDW _ ((((Ext.rfl' w13).alloc _).alloc _).alloc _)) (by decide) (by simp[maxLen]) (by omega) (by simp only[Z2];omega) ?_)
  intro v' w14 Jk Dq _;obtain⟨g14,cp14,rfl,hg14,hg14'⟩:=World.ownsRow.form Jk (by omega);have hE14:Ext w13 w14:=Ext.grown ((((Ext.rfl' w13).alloc _).alloc _).alloc _) Dq (fun k hk=>by simp[Value.ownBlock] at hk<;>omega);have gp14:w14.heap[w13.heap.size]? =some (.cells #[.int .i64 38,.int .i64 48] 48):=Z0m Dq (fun e=>by simp[Value.ownBlock] at e<;>omega) (by simp only[Z3,Z2];rw[if_neg (by omega),if_neg (by omega),if_pos trivial]);have gk14:w14.heap[w13.heap.size+1]? =some (.cells #[.int .i64 2,.int .i64 4,.int .i64 1,.int .i64 2,.slice (some ⟨D,0,none⟩) 3 3] 70):=Z0m Dq (fun e=>by simp[Value.ownBlock] at e<;>omega) (by simp only[Z3,Z2];rw[if_neg (by omega),if_pos trivial]);clear Dq)
 refine(Z3P _ _ _).mono ?_;rintro e w15 ⟨rfl,Jl⟩;have hE15:=hE14.trans Jl;have gp15:=Jl.get gp14;have gk15:=Jl.get gk14;have Oy:=Z00 Jk Jl;rename_i Q K hK;refine hK _ _ ?_;clear hK
 go_wp2_with (
  at_builtin
  go_loud (refine wpList_append_own _ rfl _ _ _ rfl (w13.heap.size+1+1) 80 Tryz.t80 (.agg #[.int .i64 0,.int .i64 0,.int .i64 0,.int .i64 0,.int .i64 0]) 5 40 u68 i80 t80z t80s t80b rfl (by omega) (.slice (some ⟨g14,0,none⟩) 3 cp14) 3 (exS.flatMap rsC) rfl (Oy.alloc _) ⟨w15.heap.size,0,none⟩ 1 1 (rsC ⟨20,70,70,0,0⟩) rfl rfl ?_ (by decide) (by simp[maxLen]) (by omega) (by simp only[Z2];have:=Jl.size;omega) ?_)
  ·intro j u hu;rw[Z0c,Z0 (by rw[Z3,if_pos rfl]),<-Array.getElem?_toList];exact hu
  intro v' w16 Oz Dr _;obtain⟨g16,c16,cur,rfl,hg16,hh16,Ty⟩:∃g c cur,v'= .slice (some ⟨g,0,none⟩) (3+1) c/\w13.heap.size+1+1<=g/\w16.heap[g]? =some (.cells cur 80)/\cur.toList.take ((3+1)*5)=exS.flatMap rsC++rsC ⟨20,70,70,0,0⟩:=by
   obtain⟨_,⟨_,h⟩|⟨g,c,cur,h1,h2,h3,_,_,_,h4⟩⟩:=Oz
   ·omega
   ·exact⟨g,c,cur,h1,h2,h3,h4⟩
  have hE16:Ext w13 w16:=Ext.grown (hE15.alloc _) Dr (fun k hk=>by simp[Value.ownBlock] at hk<;>omega);have gp16:w16.heap[w13.heap.size]? =some (.cells #[.int .i64 38,.int .i64 48] 48):=Z0m Dr (fun e=>by simp[Value.ownBlock] at e<;>omega) (((Ext.rfl' w15).alloc _).get gp15);have gk16:w16.heap[w13.heap.size+1]? =some (.cells #[.int .i64 2,.int .i64 4,.int .i64 1,.int .i64 2,.slice (some ⟨D,0,none⟩) 3 3] 70):=Z0m Dr (fun e=>by simp[Value.ownBlock] at e<;>omega) (((Ext.rfl' w15).alloc _).get gk15);clear Dr;have y0:=Z0 gk16 0;have y1:=Z0 gk16 1;have y2:=Z0 gk16 2;have y3:=Z0 gk16 3;have y4:=Z0 gk16 4;have z4:=Z8 gk16 4;have hlt16:=Z5 gk16;simp only[List.getElem?_toArray,List.getElem?_cons_zero,List.getElem?_cons_succ] at y0 y1 y2 y3 y4)
 have hEs:=hE16.setCell ⟨w13.heap.size+1,4,none⟩ (.slice (some ⟨g16,0,none⟩) 4 c16) (by simp only;omega);have I3:(w16.setCell ⟨w13.heap.size+1,4,none⟩ (.slice (some ⟨g16,0,none⟩) 4 c16)).heap[g16]? =some (.cells cur 80):=(set_ne (by simp only;omega) _).trans hh16;have gks:=Zb gk16 (i:=4) (.slice (some ⟨g16,0,none⟩) 4 c16);have gps:(w16.setCell ⟨w13.heap.size+1,4,none⟩ (.slice (some ⟨g16,0,none⟩) 4 c16)).heap[w13.heap.size]? =some (.cells #[.int .i64 38,.int .i64 48] 48):=(set_ne (by simp only;omega) _).trans gp16;replace gks:(w16.setCell ⟨w13.heap.size+1,4,none⟩ (.slice (some ⟨g16,0,none⟩) 4 c16)).heap[w13.heap.size+1]? =some (.cells #[.int .i64 2,.int .i64 4,.int .i64 1,.int .i64 2,.slice (some ⟨g16,0,none⟩) 4 c16] 70):=gks;generalize (w16.setCell ⟨w13.heap.size+1,4,none⟩ (.slice (some ⟨g16,0,none⟩) 4 c16))=ws at hEs I3 gks gps⊢;have Ae:=Ox.trans hEs;refine(Zca g16 c16 ws (Z6Y (L:=exS4) I3 (Ty.trans (by rfl))) (Bp.ext Ae) (W6.ext Ae)).mono ?_;rintro e w17 ⟨v33,rfl,hv33,Jm⟩;obtain⟨a33,c33,rfl,hr33,hx33⟩:=hv33.rawI;have gk17:=Jm.get gks;have gp17:=Jm.get gps;have hg17:=Jm.get I3;have P0:=Ae.trans Jm;clear hx33 y0 y1 y2 y3 y4 z4;have y0:=Z0 gk17 0;have y1:=Z0 gk17 1;have y2:=Z0 gk17 2;have y3:=Z0 gk17 3;have y4:=Z0 gk17 4
 simp only[List.getElem?_toArray,List.getElem?_cons_zero,List.getElem?_cons_succ] at y0 y1 y2 y3 y4;rename_i Q K hK;refine hK _ _ ?_;clear hK;go_wp2_with fail;refine(Zcb g16 c16 w17 (Z6Y (L:=exS4) hg17 (Ty.trans (by rfl))) (Bp.ext P0) (W6.ext P0)).mono ?_;rintro e w18 ⟨v35,rfl,hv35,Lm⟩;obtain⟨a35,c35,rfl,hr35,hx35⟩:=hv35.rawI;have Tz:=hr33.ext Lm;have hE18:=hEs.trans (Jm.trans Lm);have U0:=Jj.trans hE18;have U1:=Ji.trans U0;have E9:=Jh.trans U1;have Ca:=Jg.trans E9;have Qc:=Hu.trans Ca;have G7:=Tq.trans Qc;have Bz:=Tp.trans G7;have B6:=D2.trans Bz;have An:=Pt.trans B6;have hr9z:=Hs.ext An;have U2:=Yo.ext B6;have U3:=Yp.ext B6;have gp8z:=Qc.get gp8;have gp9z:=Ca.get gp9;have gp10z:=E9.get gp10;have gp18z:=Lm.get gp17;have hcz:=P0.trans Lm;clear hx35 y0 y1 y2 y3 y4 q0 q1 q2 q3 q4 r0 r1 r2 r3 r4 An B6 Bz G7 Qc Ca E9 U1 U0 D0 D6 Eh Ex Pt D2 Tp Tq Hu Jg Jh Ji Jj Eb E0 Q0 Vj Q8 Yt Vk Vl Vm Li Lj Ll;rename_i Q K hK;refine hK _ _ ?_;clear hK;go_wp2_with fail;refine(Z25 a9 3 c9 (Z0Q 10 2 5 3 exL [0,2,3]) _ 3 3 exA _ v_ap.2.2 rfl (by decide) (hr9z.ext ((Ext.rfl' w18).alloc _)) (ZaN (by simp only[Z3,Z2];exact if_pos trivial) rfl)).mono ?_
 rintro e w19 ⟨rfl,hE⟩;have U4:=((Ext.rfl' w18).alloc _).trans hE;rw[v_ap.1];clear hE;rename_i Q K hK;refine hK _ _ ?_;clear hK;go_wp2_with fail;refine(Z55 a11 2 c11 [[0,1,2],[3,4,5]] _ 2 2 [[0,1,2],[3,4,5]] _ rfl rfl (by decide) (U2.ext (((U4.alloc _).alloc _).alloc _)) (Zcc (b:=w19.heap.size) (by simp only[Z3,Z2];rw[if_neg (by omega),if_neg (by omega),if_pos trivial]) (by simp only[Z3,Z2];rw[if_neg (by omega),if_pos trivial]) (by simp only[Z3,Z2];exact if_pos trivial))).mono ?_;rintro e w20 ⟨rfl,hE⟩;have U5:=U4.trans (((((Ext.rfl' w19).alloc _).alloc _).alloc _).trans hE);rw[show decide (([[0,1,2],[3,4,5]]:List (List Int))=[[0,1,2],[3,4,5]])=true from by decide];clear hE;rename_i Q K hK;refine hK _ _ ?_;clear hK;go_wp2_with fail;refine(Z1d a12 1 c12 [6] _ 1 1 [6] _ rfl rfl (by decide) (U3.ext (U5.alloc _)) (Z0V (by simp only[Z3,Z2];exact if_pos trivial) rfl)).mono ?_;rintro e w21 ⟨rfl,hE⟩;have Gp:=U5.trans (((Ext.rfl' w20).alloc _).trans hE);rw[show decide (([6]:List Int)=[6])=true from by decide];clear hE;rename_i Q K hK;refine hK _ _ ?_;clear hK;go_wp2_with fail;obtain⟨w1,Jy⟩:∃w1:World,w1=w21:=⟨_,rfl⟩;have gp8w:=Gp.get gp8z;have gp9w:=Gp.get gp9z;have gp10w:=Gp.get gp10z;have gp18w:=Gp.get gp18z
 have Mx:=Tz.ext Gp;have My:=hr35.ext Gp;have hcw:=hcz.trans Gp;rw[<-Jy] at gp8w gp9w gp10w gp18w Mx My hcw⊢;clear Jy;have z8:=Zc gp8w;have gz8:=Zet z8.1;have gy8:=Zet z8.2.1;clear z8;have z9:=Zc gp9w;have gz9:=Zet z9.1;have gy9:=Zet z9.2.1;clear z9;have z10:=Zc gp10w;have gz10:=Zet z10.1;have gy10:=Zet z10.2.1;clear z10;have z18:=Zc gp18w;have gz18:=Zet z18.1;have gy18:=Zet z18.2.1;clear z18;refine ZeG 49 (by kernel_rfl) ?_;refine ZeB [0] (by kernel_rfl) (by kernel_rfl) ?_;simp only[ZeD,List.getElem?_cons_succ,List.getElem?_cons_zero,List.cons_append,List.nil_append]
 repeat (go_big_quiet_step (fail))
 refine wpQuiet_nil ?_;refine ZeX 1 (f:=34) (args:= #[.int .i64 93,.int .i64 102]) (v:= .agg #[.int .i64 93,.int .i64 102]) (by kernel_rfl) rfl (by kernel_rfl) rfl (fun W=>by simp[go_sem,execOp,Act.eval]) (fun W _=>Z3P 93 102 W) ?_;go_simp;refine ZeB [2,3,4] (by kernel_rfl) (by kernel_rfl) ?_;simp only[ZeD,List.getElem?_cons_succ,List.getElem?_cons_zero,List.cons_append,List.nil_append]
 repeat (go_big_quiet_step (fail))
 refine wpQuiet_nil ?_;refine ZeX 5 (f:=34) (args:= #[.int .i64 93,.int .i64 100]) (v:= .agg #[.int .i64 93,.int .i64 100]) (by kernel_rfl) rfl (by kernel_rfl) rfl (fun W=>by simp[go_sem,execOp,Act.eval]) (fun W _=>Z3P 93 100 W) ?_;go_simp;refine ZeB [6,7,8,9] (by kernel_rfl) (by kernel_rfl) ?_;simp only[ZeD,List.getElem?_cons_succ,List.getElem?_cons_zero,List.cons_append,List.nil_append]
 repeat (go_big_quiet_step (fail))
 refine wpQuiet_nil ?_;refine ZeX 10 (f:=34) (args:= #[.int .i64 73,.int .i64 80]) (v:= .agg #[.int .i64 73,.int .i64 80]) (by kernel_rfl) rfl (by kernel_rfl) rfl (fun W=>by simp[go_sem,execOp,Act.eval]) (fun W _=>Z3P 73 80 W) ?_;go_simp;refine ZeB [11,12,13,14,15,16,17,18,19,20,21,22,23,24,25,26,27,28,29,30,31,32,33,34] (by kernel_rfl) (by kernel_rfl) ?_;simp only[ZeD,List.getElem?_cons_succ,List.getElem?_cons_zero,List.cons_append,List.nil_append]
 repeat (go_big_quiet_step (fail))
 refine wpQuiet_nil ?_;refine ZeX 35 (f:=34) (args:= #[.int .i64 38,.int .i64 48]) (v:= .agg #[.int .i64 38,.int .i64 48]) (by kernel_rfl) rfl (by kernel_rfl) rfl (fun W=>by simp[go_sem,execOp,Act.eval]) (fun W _=>Z3P 38 48 W) ?_;go_simp;refine ZeB [36,37,38,39] (by kernel_rfl) (by kernel_rfl) ?_;simp only[ZeD,List.getElem?_cons_succ,List.getElem?_cons_zero,List.cons_append,List.nil_append]
 repeat (go_big_quiet_step (fail))
 refine wpQuiet_nil ?_;refine Zfa 40 rfl (by kernel_rfl) rfl (fun W hW=>Zf3 ⟨.slice (some ⟨W.heap.size,0,none⟩) 2 2,W.alloc (.cells #[.int .i64 1,.int .i64 3] 3),by simp[go_sem,execOp,Act.eval],(Ext.rfl' W).alloc _,?_⟩);have m9:RawI (W.alloc (.cells #[.int .i64 1,.int .i64 3] 3)) (some ⟨W.heap.size,0,none⟩) [1,3]:=Z0V ((Z3 _ _ _).trans (if_pos rfl)) rfl;have e9:=hW.alloc (.cells #[.int .i64 1,.int .i64 3] 3);obtain⟨b9,P3⟩:∃b,b=W.heap.size:=⟨_,rfl⟩;rw[<-P3] at m9;rw[<-P3];generalize W.alloc _=W9 at m9 e9⊢;clear P3 hW;clear W;go_simp
 refine ZeX 41 (f:=58) (args:= #[.slice a33 2 c33,.slice (some ⟨b9,0,none⟩) 2 2]) (v:= .bool true) (by kernel_rfl) rfl (by kernel_rfl) rfl (fun W=>by simp[go_sem,execOp,Act.eval]) (fun W hW=>by
  have:=Z1d a33 2 c33 [1,3] (some ⟨b9,0,none⟩) 2 2 [1,3] W rfl rfl (by decide) (Mx.ext (e9.trans hW)) (m9.ext hW)
  rwa [decide_eq_true rfl] at this) ?_
 go_simp;refine ZeB [42,43,44] (by kernel_rfl) (by kernel_rfl) ?_;simp only[ZeD,List.getElem?_cons_succ,List.getElem?_cons_zero,List.cons_append,List.nil_append]
 repeat (go_big_quiet_step (fail))
 refine wpQuiet_nil ?_;refine Zfa 45 rfl (by kernel_rfl) rfl (fun W hW=>Zf3 ⟨.slice (some ⟨W.heap.size,0,none⟩) 3 3,W.alloc (.cells #[.int .i64 0,.int .i64 1,.int .i64 2] 3),by simp[go_sem,execOp,Act.eval],(Ext.rfl' W).alloc _,?_⟩);clear m9;have m9:RawI (W.alloc (.cells #[.int .i64 0,.int .i64 1,.int .i64 2] 3)) (some ⟨W.heap.size,0,none⟩) [0,1,2]:=Z0V ((Z3 _ _ _).trans (if_pos rfl)) rfl;have e9:=(e9.trans hW).alloc (.cells #[.int .i64 0,.int .i64 1,.int .i64 2] 3);obtain⟨b9,P3⟩:∃b,b=W.heap.size:=⟨_,rfl⟩;rw[<-P3] at m9;rw[<-P3];generalize W.alloc _=W9 at m9 e9⊢;clear P3 hW;clear W;go_simp
 refine ZeX 46 (f:=58) (args:= #[.slice a35 3 c35,.slice (some ⟨b9,0,none⟩) 3 3]) (v:= .bool true) (by kernel_rfl) rfl (by kernel_rfl) rfl (fun W=>by simp[go_sem,execOp,Act.eval]) (fun W hW=>by
  have:=Z1d a35 3 c35 [0,1,2] (some ⟨b9,0,none⟩) 3 3 [0,1,2] W rfl rfl (by decide) (My.ext (e9.trans hW)) (m9.ext hW)
  rwa [decide_eq_true rfl] at this) ?_
 go_simp;refine ZeB [47,48] (by kernel_rfl) (by kernel_rfl) ?_;simp only[ZeD,List.getElem?_cons_succ,List.getElem?_cons_zero,List.cons_append,List.nil_append]
 repeat (go_big_quiet_step (fail))
 refine wpQuiet_nil ?_;refine Zf6 (by kernel_rfl) (fun W hW=> ?_);have hEf:=G5.trans (hcw.trans (e9.trans hW));go_wp2;go_ret;exact⟨rfl,hEf⟩
end Go.Proofs.Tryq
namespace Go.Proofs.Tryq
open Go Go.Nk Go.RowKit
set_option linter.all false
end Go.Proofs.Tryq
namespace Go.Proofs.Tryq
set_option maxRecDepth 100000
set_option maxHeartbeats 2000000
open Go Go.Nk Go.RowKit
def Z1B(L:List Sf):Bool:=decide (20<L.length)||L.any fun x=>decide (100<x.nm.size)
theorem ZaR(a b c m:Int)(base:Option Addr)(n cap:Nat)(L:List Sf)(w:World)(A2:L.length=n)(hS:RawA w base L):
 Calls prog 21 #[.agg #[.int .i64 a,.int .i64 b,.int .i64 c,.int .i64 m,.slice base n cap]] w fun e w'=>e= .returned (.bool (Z1B L))/\Ext w w':=by
 by_cases O5:20<L.length
 ·have hz:Z1B L=true:=by rw[Z1B,decide_eq_true O5,Bool.true_or]
  have hn:(20:Int)<(n:Int):=by omega
  rw[hz];clear O5 hz;go_enter func21,ntmps21;go_wp2;go_ret;exact⟨rfl,(Ext.rfl' w).alloc _⟩
 ·have hn:(n:Int)<=20:=by omega
  have H:Hid (Z1B L=(L.drop 0).any fun x=>decide (100<x.nm.size)):=by show _=_;rw[Z1B,decide_eq_false O5,Bool.false_or];rfl
  clear O5;go_enter func21,ntmps21;go_wp2;go_loopw [3] (fun v wr=>∃i:Nat,i<=n/\v= .int .i64 i/\wr.heap[w.heap.size]? =some (.cells #[.int .i64 a,.int .i64 b,.int .i64 c,.int .i64 m,.slice base n cap] 26)/\Ext w wr/\Hid (Z1B L=(L.drop i).any fun x=>decide (100<x.nm.size))) (fun v _=>n - (intOf v).toNat)
  case atStart=>exact⟨0,Nat.zero_le _,rfl,by rw[Z3,if_pos rfl],(Ext.rfl' w).alloc _,H⟩
  case round=>
   obtain⟨i,hi,rfl,hr,hE,hH⟩:=hrel;clear H;have q4:=Z0 hr 4;simp only[List.getElem?_toArray,List.getElem?_cons_zero,List.getElem?_cons_succ] at q4;by_cases Aj:i=n
   ·subst Aj;have hz:Z1B L=false:=(by rw[hH.out,<-A2,List.drop_length];rfl);go_wp2;go_ret;exact⟨ZP (a:=false) hz.symm,hE⟩
   ·have A3:i<n:=(by omega);obtain⟨x,hx⟩:∃x,L[i]? =some x:=⟨_,List.getElem?_eq_getElem (by omega)⟩;obtain⟨b',off,rfl,hb,hs,Km⟩:=(hS.ext hE) i x hx;have k0:=hs.1;have Ac:Hid (Z1B L=(decide (100<x.nm.size)||(L.drop (i+1)).any fun x=>decide (100<x.nm.size))):=(by show _=_;rw[hH.out,Z0b hx,List.any_cons]);clear hH hx;unfold maxLen at Km;have F3:¬n<=i:=(by omega);by_cases h1:100<x.nm.size
    ·have hz:Z1B L=true:=(by rw[Ac.out,decide_eq_true h1,Bool.true_or]);have h1':(100:Int)<(x.nm.size:Int):=(by omega);clear Ac h1;go_wp2;go_ret;exact⟨ZP (a:=true) hz.symm,hE⟩
    ·have Ek:Hid (Z1B L=(L.drop (i+1)).any fun x=>decide (100<x.nm.size)):=(by show _=_;rw[Ac.out,decide_eq_false h1,Bool.false_or]);have h1':(x.nm.size:Int)<=100:=(by omega);clear Ac h1;go_wp2;exact⟨⟨i+1,by omega,by push_cast;rfl,hr,hE,Ek⟩,by simp[intOf];omega⟩
def Zfc(a b c m:Int)(L:List Sf):Bool:= !Z1B L&&(Zp a b c m L==0)
theorem Zfd(a b c m:Int)(base:Option Addr)(n cap:Nat)(L:List Sf)(w:World)(A2:L.length=n)(hS:RawA w base L):
 Calls prog 30 #[.agg #[.int .i64 a,.int .i64 b,.int .i64 c,.int .i64 m,.slice base n cap]] w fun e w'=>e= .returned (.bool (Zfc a b c m L))/\Ext w w':=by
 have Mb:=fun W hW=>ZaR a b c m base n cap L W A2 (hS.ext hW)
 cases hg:Z1B L with
 |true=>
  have hf:Zfc a b c m L=false:=by simp[Zfc,hg]
  simp only[hg] at Mb;rw[hf];go_enter func30,ntmps30
  go_wp2_with (first
   |(go_at_call 21;refine(Mb _ ((Ext.rfl' w).alloc _)).mono ?_;rintro e w2 ⟨rfl,A7⟩
     have As:=((Ext.rfl' w).alloc _).trans A7))
  go_ret;exact⟨rfl,As⟩
 |false=>
  have hn:n<=20:=by
   rw[<-A2];simp only[Z1B,Bool.or_eq_false_iff,decide_eq_false_iff_not] at hg;omega
  have hf:Zfc a b c m L=(Zp a b c m L==0):=by simp[Zfc,hg]
  simp only[hg] at Mb;have hc:=fun W hW=>Z1P a b c m base n cap L W A2 (by omega) (hS.ext hW)
  rw[hf];clear hg hf;go_enter func30,ntmps30
  go_wp2_with (first
   |(go_at_call 21;refine(Mb _ ((Ext.rfl' w).alloc _)).mono ?_;rintro e w2 ⟨rfl,A7⟩
     have As:=((Ext.rfl' w).alloc _).trans A7;have hb:=A7.get (b:=w.heap.size) (o:= .cells #[.int .i64 a,.int .i64 b,.int .i64 c,.int .i64 m,.slice base n cap] 26) ((Z3 _ _ _).trans (if_pos rfl));have q0:=Z0 hb 0;have q1:=Z0 hb 1;have q2:=Z0 hb 2;have q3:=Z0 hb 3;have q4:=Z0 hb 4;simp only[List.getElem?_toArray,List.getElem?_cons_zero,List.getElem?_cons_succ] at q0 q1 q2 q3 q4)
   |(go_at_call 26;refine(hc _ As).mono ?_;rintro e w3 ⟨rfl,An⟩))
  go_ret;exact⟨rfl,As.trans An⟩
def Zfg(v:Int)(i:Nat):Bool:=bits BinOp.and IntKind.u16 (v / 2 ^ min i 16) 1==1
def ZeL(v:Int)(n:Nat):List Int:=((List.range n).filter (Zfg v)).map fun(i:Nat)=>(i:Int)
theorem ZeH(v:Int)(i:Nat):ZeL v (i+1)=ZeL v i++(if Zfg v i then[(i:Int)] else[]):=by
 unfold ZeL;rw[List.range_succ,List.filter_append,List.map_append];congr 1;cases h:Zfg v i<;>simp[h]
theorem ZeN(v:Int)(i:Nat):(ZeL v i).length<=i:=by
 have:=List.length_filter_le (Zfg v) (List.range i);simpa[ZeL] using this
theorem ZeT(a b c m v:Int)(base:Option Addr)(n cap:Nat)(w:World)(hn:n<=20)(hv:0<=v/\v<65536):
 Calls prog 31 #[.agg #[.int .i64 a,.int .i64 b,.int .i64 c,.int .i64 m,.slice base n cap],.int .u16 v] w fun e w'=>∃x,e= .returned x/\OwnI w.heap.size w' x (ZeL v n)/\Ext w w':=by
 have Bf:=(Ext.rfl' w).alloc (.cells #[.int .i64 a,.int .i64 b,.int .i64 c,.int .i64 m,.slice base n cap] 26);have E2:(w.alloc (.cells #[.int .i64 a,.int .i64 b,.int .i64 c,.int .i64 m,.slice base n cap] 26)).heap[w.heap.size]? =some (.cells #[.int .i64 a,.int .i64 b,.int .i64 c,.int .i64 m,.slice base n cap] 26):=by rw[Z3,if_pos rfl]
 obtain⟨N,hN⟩:∃N,N=w.heap.size+1:=⟨_,rfl⟩;go_enter func31,ntmps31;go_wp2;go_loopw [5,6] (fun v5 v6 wr=>∃i:Nat,i<=n/\v6= .int .i64 i/\wr.heap[w.heap.size]? =some (.cells #[.int .i64 a,.int .i64 b,.int .i64 c,.int .i64 m,.slice base n cap] 26)/\OwnI N wr v5 (ZeL v i)/\Ext w wr) (fun _ v6 _=>n - (intOf v6).toNat)
 case atStart=>exact⟨0,Nat.zero_le _,rfl,E2,World.ownsRow_nil _ _ _ _,Bf⟩
 case round=>
  rename_i v5 _;obtain⟨i,hi,rfl,hr,Al,hE⟩:=hrel;have q4:=Z0 hr 4;simp only[List.getElem?_toArray,List.getElem?_cons_zero,List.getElem?_cons_succ] at q4;clear Bf E2;by_cases h0:i=n
  ·subst h0;go_wp2;go_ret;exact⟨_,rfl,Al.le (by omega),hE⟩
  ·have A3:i<n:=by omega
   have Ew:(i:Int)<(n:Int):=by omega
   have Oc:=ZeN v i;have Ac:=ZeH v i;have hs:=hE.size;have D6:=Z5 hr;obtain⟨l,hl⟩:∃l,l=ZeL v i:=⟨_,rfl⟩;rw[<-hl] at Al Oc Ac;clear hl;cases hb:Zfg v i with
   |true=>
    have Ak:(bits BinOp.and IntKind.u16 (v / 2 ^ min i 16) 1==1)=true:=hb;rw[hb,if_pos rfl] at Ac;have H3:Hid (ZeL v (i+1)=l++[(i:Int)]):=Ac;clear Ac hb
    go_wp2_with (
     at_builtin
     generalize Value.int IntKind.u16 (bits BinOp.and IntKind.u16 (v / 2 ^ min i 16) 1)=q1;generalize Value.int IntKind.u16 (v / 2 ^ min i 16)=q2;refine wpList_append_own _ rfl _ _ _ rfl N 3 Tryz.t3 (.int .i64 0) 1 8 u27 i3 t3z t3s t3b rfl (by omega) _ _ _ rfl (Al.alloc _) ⟨wr.heap.size,0,none⟩ 1 1 [.int .i64 i] rfl rfl (Z1N _ _ _) (by intro u hu;simp at hu;subst hu;rfl) (by(try simp[maxLen]);omega) (by(try simp);omega) (by(try simp only[Z2]);omega) ?_;intro v' w3 Ai Aa _;have As:Ext w w3:=(hE.alloc _).grown Aa (fun k hk=>by have:=(Al.lt k hk).1;omega);have Ga:=(Aa.block w.heap.size (by(try simp only[Z2]);omega) (by intro e;have:=(Al.lt _ e.symm).1;omega)).trans (((Z3 wr _ w.heap.size).trans (if_neg (by omega))).trans hr))
    go_roundw
    case rel=>exact⟨i+1,by omega,by push_cast;rfl,Ga,by rw[H3.out];simpa[OwnI] using Ai,As⟩
    case measure=>simp[intOf];omega
   |false=>
    have Ak:(bits BinOp.and IntKind.u16 (v / 2 ^ min i 16) 1==1)=false:=hb;rw[hb] at Ac;have H3:Hid (ZeL v (i+1)=l):=(by rw[Hid,Ac];simp);clear Ac hb;go_wp2;go_roundw
    case rel=>exact⟨i+1,by omega,by push_cast;rfl,hr,by rw[H3.out];exact Al,hE⟩
    case measure=>simp[intOf];omega
end Go.Proofs.Tryq
namespace Go.Proofs.Tryq
open Go Go.Nk Go.RowKit
set_option linter.all false
theorem ZeO(n:Nat):∀(l:List Int)(o:Option Int),(∀y,o=some y->∀x∈l,y<x)->l.Pairwise (·<·)->(∀x∈l,0<=x/\x<n)->Z1k n o l=0
 |[],_,_,_,_=>rfl
 |x::t,o,h1,h2,h3=>by
  rw[Z8y];have hx:=h3 x (List.mem_cons_self ..);rw[if_neg (by simp only[Decidable.not_not];omega)];obtain⟨h4,h5⟩:=List.pairwise_cons.1 h2;have ih:=ZeO n t (some x) (fun y e z hz=>by injection e with e;subst e;exact h4 z hz) h5 (fun z hz=>h3 z (List.mem_cons_of_mem _ hz));cases o with
  |none=>simpa using ih
  |some y=>
   have h6:=h1 y rfl x (List.mem_cons_self ..);have h7:decide (x<=y)=false:=by simp only[decide_eq_false_iff_not];omega
   simpa[h7] using ih
theorem ZeE{n:Nat}{l:List Int}(h2:l.Pairwise (·<·))(h3:∀x∈l,0<=x/\x<n):Zq n l=0:=
 ZeO n l none (fun y e=>by cases e) h2 h3
theorem ZeY(v:Int)(n:Nat):(ZeL v n).Pairwise (·<·)/\∀x∈ZeL v n,0<=x/\x<n:=by
 induction n with
 |zero=>exact⟨List.Pairwise.nil,fun x hx=>by cases hx⟩
 |succ n ih=>
  rw[ZeH];cases hb:Zfg v n with
  |false=>
   simp only[Bool.false_eq_true,if_false,List.append_nil];exact⟨ih.1,fun x hx=>by have:=ih.2 x hx;omega⟩
  |true=>
   simp only[if_true];refine⟨List.pairwise_append.2 ⟨ih.1,List.pairwise_singleton _ _,fun x hx y hy=> ?_⟩,fun x hx=> ?_⟩
   ·rw[List.mem_singleton.1 hy];exact(ih.2 x hx).2
   ·rcases List.mem_append.1 hx with h|h
    ·have:=ih.2 x h;omega
    ·rw[List.mem_singleton.1 h];omega
theorem Zew(v:Int)(n:Nat):Zq n (ZeL v n)=0:=ZeE (ZeY v n).1 (ZeY v n).2
theorem Zfe{a b c:Int}{L:List Sf}{u:Ap}:∀{l:List Int},u∈apA a b c L l↔∃(i j:Nat)(x y:Int),i<j/\l[i]? =some x/\l[j]? =some y/\u∈apP a b c L x y
 |[]=>⟨fun h=>(by cases h),fun⟨i,j,x,y,_,hx,_⟩=>by simp at hx⟩
 |p::t=>by
  rw[show apA a b c L (p::t)=apR a b c L p t++apA a b c L t from rfl,List.mem_append,Zfe (l:=t)];constructor
  ·rintro(h|⟨i,j,x,y,Ce,hx,hy,hu⟩)
   ·obtain⟨y,hy,hu⟩:=List.mem_flatMap.1 h;obtain⟨j,hj⟩:=List.mem_iff_getElem?.1 hy;exact⟨0,j+1,p,y,by omega,rfl,by simpa using hj,hu⟩
   ·exact⟨i+1,j+1,x,y,by omega,by simpa using hx,by simpa using hy,hu⟩
  ·rintro⟨i,j,x,y,Ce,hx,hy,hu⟩;obtain⟨j,rfl⟩:∃j',j=j'+1:=⟨j - 1,by omega⟩;rw[List.getElem?_cons_succ] at hy;cases i with
   |zero=>
    rw[List.getElem?_cons_zero] at hx;injection hx with e;subst e;exact .inl (List.mem_flatMap.2 ⟨y,List.mem_of_getElem? hy,hu⟩)
   |succ i=>
    rw[List.getElem?_cons_succ] at hx;exact .inr ⟨i,j,x,y,by omega,hx,hy,hu⟩
theorem Zeu{a b c m:Int}{L:List Sf}(hs:Zp a b c m L=0){l:List Int}(hz:Zq L.length l=0):Z1M a b c m L l=Zr (apA a b c L l):=if_pos (by rw[Zo,hs,hz];rfl)
theorem Zez{A:List Ap}:Zr A=2↔∃u∈A,u.s=2:=by
 unfold Zr;split
 ·rename_i h;obtain⟨u,hu,h2⟩:=List.any_eq_true.1 h;exact⟨fun _=>⟨u,hu,by simpa using h2⟩,fun _=>rfl⟩
 ·rename_i h;constructor
  ·intro h2;split at h2<;>simp at h2
  ·rintro⟨u,hu,h2⟩;exact absurd (List.any_eq_true.2 ⟨u,hu,by simpa using h2⟩) h
set_option linter.all false
theorem ZmN(a b c:Int)(x y:Sf)(k:Nat):Z1m a b c x y k=0\/Z1m a b c x y k=1\/Z1m a b c x y k=2:=by
 unfold Z1m Z2Q;split
 ·exact .inr (.inl rfl)
 ·split
  ·exact .inr (.inr rfl)
  ·exact .inl rfl
theorem mem_apP{a b c:Int}{L:List Sf}{u:Ap}{p q:Int}:u∈apP a b c L p q↔∃x y,L[p.toNat]? =some x/\L[q.toNat]? =some y/\∃k:Nat,k<3/\Z1m a b c x y k≠1/\u=⟨p,q,k,Z1m a b c x y k⟩:=by
 have key:∀k:Nat,u∈apE a b c L p q k↔∃x y,L[p.toNat]? =some x/\L[q.toNat]? =some y/\Z1m a b c x y k≠1/\u=⟨p,q,k,Z1m a b c x y k⟩:=by
  intro k;unfold apE;cases h1:L[p.toNat]? with
  |none=>simp
  |some x=>
   cases h2:L[q.toNat]? with
   |none=>simp
   |some y=>
    simp only[Option.some.injEq];split
    ·rename_i h;simp[h]
    ·rename_i h;simp[h]
 simp only[apP,List.mem_append,key];constructor
 ·rintro(⟨x,y,h1,h2,h3,h4⟩|⟨x,y,h1,h2,h3,h4⟩|⟨x,y,h1,h2,h3,h4⟩)
  ·exact⟨x,y,h1,h2,0,by omega,h3,h4⟩
  ·exact⟨x,y,h1,h2,1,by omega,h3,h4⟩
  ·exact⟨x,y,h1,h2,2,by omega,h3,h4⟩
 ·rintro⟨x,y,h1,h2,k,hk,h3,h4⟩;obtain rfl|rfl|rfl:k=0\/k=1\/k=2:=by omega
  ·exact .inl ⟨x,y,h1,h2,h3,h4⟩
  ·exact .inr (.inl ⟨x,y,h1,h2,h3,h4⟩)
  ·exact .inr (.inr ⟨x,y,h1,h2,h3,h4⟩)
def Two(L:List Sf)(l:List Int)(p q:Int)(x y:Sf):Prop:=p∈l/\q∈l/\p<q/\L[p.toNat]? =some x/\L[q.toNat]? =some y
theorem Zlz{a b c:Int}{L:List Sf}{l:List Int}(hl:l.Pairwise (·<·)){u:Ap}:u∈apA a b c L l↔∃p q x y,Two L l p q x y/\∃k:Nat,k<3/\Z1m a b c x y k≠1/\u=⟨p,q,k,Z1m a b c x y k⟩:=by
 rw[Zfe];constructor
 ·rintro⟨i,j,p,q,Ce,hp,hq,hu⟩;obtain⟨x,y,hx,hy,hk⟩:=mem_apP.1 hu;refine⟨p,q,x,y,⟨List.mem_of_getElem? hp,List.mem_of_getElem? hq,?_,hx,hy⟩,hk⟩;obtain⟨h1,e1⟩:=List.getElem?_eq_some_iff.1 hp;obtain⟨h2,e2⟩:=List.getElem?_eq_some_iff.1 hq;have:=List.pairwise_iff_getElem.1 hl i j h1 h2 Ce;rw[e1,e2] at this;exact this
 ·rintro⟨p,q,x,y,⟨hp,hq,Oo,hx,hy⟩,hk⟩;obtain⟨i,hi⟩:=List.mem_iff_getElem?.1 hp;obtain⟨j,hj⟩:=List.mem_iff_getElem?.1 hq;refine⟨i,j,p,q,?_,hi,hj,mem_apP.2 ⟨x,y,hx,hy,hk⟩⟩;obtain⟨h1,e1⟩:=List.getElem?_eq_some_iff.1 hi;obtain⟨h2,e2⟩:=List.getElem?_eq_some_iff.1 hj;rcases Nat.lt_trichotomy i j with h|h|h
  ·exact h
  ·subst h;rw[e1] at e2;omega
  ·have:=List.pairwise_iff_getElem.1 hl j i h2 h1 h;rw[e1,e2] at this;omega
theorem Zlp{a b c:Int}{L:List Sf}{l:List Int}(hl:l.Pairwise (·<·)):Zr (apA a b c L l)=1↔∀p q x y,Two L l p q x y->∀k:Nat,k<3->Z1m a b c x y k=1:=by
 rw[Zey];constructor
 ·intro h p q x y ht k hk;refine Classical.byContradiction fun hn=> ?_
  have:=(Zlz (a:=a) (b:=b) (c:=c) hl).2 ⟨p,q,x,y,ht,k,hk,hn,rfl⟩;rw[h] at this;cases this
 ·intro h;refine List.eq_nil_iff_forall_not_mem.2 fun u hu=> ?_
  obtain⟨p,q,x,y,ht,k,hk,hn,_⟩:=(Zlz hl).1 hu;exact hn (h p q x y ht k hk)
theorem ZlS{a b c:Int}{L:List Sf}{l:List Int}(hl:l.Pairwise (·<·)):Zr (apA a b c L l)=2↔∃p q x y,Two L l p q x y/\∃k:Nat,k<3/\Z1m a b c x y k=2:=by
 rw[Zez];constructor
 ·rintro⟨u,hu,h2⟩;obtain⟨p,q,x,y,ht,k,hk,_,rfl⟩:=(Zlz hl).1 hu;exact⟨p,q,x,y,ht,k,hk,h2⟩
 ·rintro⟨p,q,x,y,ht,k,hk,h2⟩;exact⟨_,(Zlz hl).2 ⟨p,q,x,y,ht,k,hk,by omega,rfl⟩,h2⟩
theorem Zlv(A:List Ap):Zr A=0\/Zr A=1\/Zr A=2:=by
 unfold Zr;split
 ·exact .inr (.inr rfl)
 ·split
  ·exact .inr (.inl rfl)
  ·exact .inl rfl
theorem ZmI{a b c:Int}{L:List Sf}{l:List Int}(hl:l.Pairwise (·<·))(h:Zr (apA a b c L l)=0):∃p q x y,Two L l p q x y/\∃k:Nat,k<3/\Z1m a b c x y k=0/\(apA a b c L l)[0]? =some ⟨p,q,k,0⟩:=by
 cases hA:apA a b c L l with
 |nil=>rw[hA] at h;cases h
 |cons u t=>
  have hu:u∈apA a b c L l:=by rw[hA];exact List.mem_cons_self
  obtain⟨p,q,x,y,ht,k,hk,hn,rfl⟩:=(Zlz hl).1 hu;have h2:¬Zr (apA a b c L l)=2:=by omega
  rw[Zez] at h2;have h3:Z1m a b c x y k≠2:=fun e=>h2 ⟨_,hu,e⟩
  have h0:Z1m a b c x y k=0:=by rcases ZmN a b c x y k with e|e|e<;>first|exact e|contradiction
  exact⟨p,q,x,y,ht,k,hk,h0,by rw[h0];rfl⟩
def InM(L:List Sf)(R:Nat->Nat->Int):Prop:=∀(i:Nat)(x:Sf),L[i]? =some x->∀k:Nat,k<3->(spA x k).1<=R i k/\R i k<=(spA x k).2
def Mtd(a b c:Int)(R:Nat->Nat->Int)(l:List Int):Prop:=∀k:Nat,k<3->∀i∈l,∀j∈l,R i.toNat k - R j.toNat k<=alw a b c k
structure StockOk(a b c m:Int)(L:List Sf):Prop where
 r:∀k,0<=alw a b c k/\alw a b c k<=9999
 m:2<=m/\m<=4
 len:L.length<=9
 ok:∀x∈L,∀k,0<=(spA x k).1/\(spA x k).1<=(spA x k).2/\(spA x k).2<=9999
theorem ZlF{a b c m:Int}{L:List Sf}(h:Zp a b c m L=0):StockOk a b c m L:=by
 have h1:Z2J a b c m=0/\Zj L=0:=by
  rw[Zp] at h;simp only[firstV] at h;split at h
  ·rename_i h0;split at h
   ·rename_i h1;exact⟨h0,h1⟩
   ·exact absurd h (by assumption)
  ·exact absurd h (by assumption)
 obtain⟨h1,h2⟩:=h1;unfold Z2J at h1;split at h1
 ·rename_i hr;simp only[okA,Bool.and_eq_true,decide_eq_true_eq] at hr;unfold Zj at h2;split at h2
  ·cases h2
  ·rename_i hl;refine⟨fun k=> ?_,by omega,by omega,fun x hx k=> ?_⟩
   ·match k with
    |0=>exact hr.1.1.1
    |1=>exact hr.1.1.2
    |k+2=>exact hr.1.2
   ·have:=shA_ok h2 x hx;simp only[Z8b,ZF,Bool.and_eq_true,decide_eq_true_eq] at this
    match k with
    |0=>exact this.1.1
    |1=>exact this.1.2
    |k+2=>exact this.2
 ·cases h1
section
variable {a b c m:Int} {L:List Sf} (hs:StockOk a b c m L) {l:List Int} (hl:l.Pairwise (·<·)) (Aj:∀i∈l,0<=i/\i<L.length) {R:Nat->Nat->Int} (hR:InM L R)
include hs hl Aj hR
theorem Zmt(h:Zr (apA a b c L l)=1):Mtd a b c R l:=by
 rw[Zlp hl] at h;intro k hk i hi j hj;have C3:=Aj i hi;have Ra:=Aj j hj;obtain⟨x,hx⟩:∃x,L[i.toNat]? =some x:=⟨_,List.getElem?_eq_getElem (by omega)⟩;obtain⟨y,hy⟩:∃y,L[j.toNat]? =some y:=⟨_,List.getElem?_eq_getElem (by omega)⟩;have r1:=hR _ x hx k hk;have r2:=hR _ y hy k hk;rcases Int.lt_trichotomy i j with Ce|Ce|Ce
 ·have:=h i j x y ⟨hi,hj,Ce,hx,hy⟩ k hk;unfold Z1m Z2Q at this;split at this
  ·omega
  ·split at this<;>cases this
 ·subst Ce;have:=(hs.r k).1;omega
 ·have:=h j i y x ⟨hj,hi,Ce,hy,hx⟩ k hk;unfold Z1m Z2Q at this;split at this
  ·omega
  ·split at this<;>cases this
theorem ZmO(h:Zr (apA a b c L l)=2):¬Mtd a b c R l:=by
 rw[ZlS hl] at h;obtain⟨p,q,x,y,⟨hp,hq,_,hx,hy⟩,k,hk,h2⟩:=h;intro hm;have h3:=hm k hk p hp q hq;have h4:=hm k hk q hq p hp;have r1:=hR _ x hx k hk;have r2:=hR _ y hy k hk;have:=(hs.r k).1;unfold Z1m Z2Q at h2;split at h2
 ·cases h2
 ·split at h2
  ·omega
  ·cases h2
end
theorem Zmf{a b c:Int}{L:List Sf}{l:List Int}(hr:∀k,0<=alw a b c k)(hl:l.Pairwise (·<·))(Aj:∀i∈l,0<=i/\i<L.length){R:Nat->Nat->Int}(hR:∀(i:Nat)(x:Sf),L[i]? =some x->∀k:Nat,k<3->spA x k=(R i k,R i k)):
 (Zr (apA a b c L l)=1/\Mtd a b c R l)\/(Zr (apA a b c L l)=2/\¬Mtd a b c R l):=by
 by_cases h:Mtd a b c R l
 ·refine .inl ⟨(Zlp hl).2 fun p q x y ⟨hp,hq,_,hx,hy⟩ k hk=> ?_,h⟩;have h1:=h k hk p hp q hq;have h2:=h k hk q hq p hp;rw[Z1m,hR _ x hx k hk,hR _ y hy k hk,Z2Q,if_pos ⟨h1,h2⟩]
 ·refine .inr ⟨(ZlS hl).2 ?_,h⟩;unfold Mtd at h;simp only[Classical.not_forall] at h;obtain⟨k,hk,i,hi,j,hj,hn⟩:=h;have C3:=Aj i hi;have Ra:=Aj j hj;obtain⟨x,hx⟩:∃x,L[i.toNat]? =some x:=⟨_,List.getElem?_eq_getElem (by omega)⟩;obtain⟨y,hy⟩:∃y,L[j.toNat]? =some y:=⟨_,List.getElem?_eq_getElem (by omega)⟩;rcases Int.lt_trichotomy i j with Ce|Ce|Ce
  ·refine⟨i,j,x,y,⟨hi,hj,Ce,hx,hy⟩,k,hk,?_⟩;rw[Z1m,hR _ x hx k hk,hR _ y hy k hk,Z2Q,if_neg (by simp only;omega),if_pos (by simp only;omega)]
  ·subst Ce;have:=hr k;omega
  ·refine⟨j,i,y,x,⟨hj,hi,Ce,hy,hx⟩,k,hk,?_⟩;rw[Z1m,hR _ x hx k hk,hR _ y hy k hk,Z2Q,if_neg (by simp only;omega),if_pos (by simp only;omega)]
theorem shA_same:∀{L L':List Sf}{seen:List (List UInt8)},L'.length=L.length->(∀(i:Nat)(x x':Sf),L[i]? =some x->L'[i]? =some x'->x'.nm=x.nm/\Z8b x'=true)->shA seen L=0->shA seen L'=0
 |[],[],_,_,_,h=>h
 |[],y::t,_,hl,_,_=>by simp at hl
 |x::t,[],_,hl,_,_=>by simp at hl
 |x::t,y::u,seen,hl,hx,h=>by
  obtain⟨h1,h2⟩:=hx 0 x y rfl rfl;rw[shA] at h;rw[shA,h1,h2];split at h
  ·omega
  ·rename_i e1;rw[if_neg e1];have e0:nmL y=nmL x:=by unfold nmL;rw[h1]
   rw[e0];split at h
   ·omega
   ·rename_i e2;rw[if_neg e2,if_neg (by simp)];split at h
    ·omega
    ·exact shA_same (by simpa using hl) (fun i x x' h1 h2=>hx (i+1) x x' h1 h2) h
theorem Zm2{a b c m:Int}{L L':List Sf}(hl:L'.length=L.length)(hx:∀(i:Nat)(x x':Sf),L[i]? =some x->L'[i]? =some x'->x'.nm=x.nm/\∀k,k<3->0<=(spA x' k).1/\(spA x' k).1<=(spA x' k).2/\(spA x' k).2<=9999)(h:Zp a b c m L=0):Zp a b c m L'=0:=by
 have h1:Z2J a b c m=0/\Zj L=0:=by
  rw[Zp] at h;simp only[firstV] at h;split at h
  ·rename_i h0;split at h
   ·rename_i h1;exact⟨h0,h1⟩
   ·exact absurd h (by assumption)
  ·exact absurd h (by assumption)
 rw[Zp];simp only[firstV,h1.1,if_true];rw[if_pos];obtain⟨_,h2⟩:=h1;unfold Zj at h2⊢;rw[hl];split at h2
 ·cases h2
 ·rename_i h9;rw[if_neg h9];refine shA_same hl (fun i x x' h1 h2=>⟨(hx i x x' h1 h2).1,?_⟩) h2;have:=(hx i x x' h1 h2).2;have k0:=this 0 (by omega);have k1:=this 1 (by omega);have k2:=this 2 (by omega);simp only[Z8b,ZF,Bool.and_eq_true,decide_eq_true_eq];exact⟨⟨k0,k1⟩,k2⟩
def Zl9(x:Sf)(k:Nat)(p:Int×Int):Sf:=match k with
 |0=>{x with a0:=p.1,a1:=p.2}
 |1=>{x with b0:=p.1,b1:=p.2}
 |_=>{x with c0:=p.1,c1:=p.2}
theorem Zle(x:Sf)(k:Nat)(p:Int×Int):(Zl9 x k p).nm=x.nm:=by unfold Zl9;split<;>rfl
theorem Zm3{x:Sf}{k j:Nat}{p:Int×Int}(hk:k<3)(hj:j<3):spA (Zl9 x k p) j=if j=k then p else spA x j:=by
 obtain rfl|rfl|rfl:k=0\/k=1\/k=2:=by omega
 all_goals
  obtain rfl|rfl|rfl:j=0\/j=1\/j=2:=by omega
  all_goals rfl
def Zla(L:List Sf)(i k:Nat)(p:Int×Int):List Sf:=match L[i]? with
 |some x=>L.set i (Zl9 x k p)
 |none=>L
theorem Zlb(L:List Sf)(i k:Nat)(p:Int×Int):(Zla L i k p).length=L.length:=by unfold Zla;split<;>simp
theorem Zlc{L:List Sf}{i k:Nat}{p:Int×Int}{j:Nat}{x':Sf}(h:(Zla L i k p)[j]? =some x'):∃x,L[j]? =some x/\x'=if j=i then Zl9 x k p else x:=by
 unfold Zla at h;split at h
 ·rename_i x hx;by_cases e:j=i
  ·subst e;have A3:=(List.getElem?_eq_some_iff.1 hx).1;rw[List.getElem?_set_self A3] at h;exact⟨x,hx,by rw[if_pos rfl];exact(Option.some.inj h).symm⟩
  ·rw[List.getElem?_set_ne (Ne.symm e)] at h;exact⟨x',h,by rw[if_neg e]⟩
 ·rename_i hx;refine⟨x',h,?_⟩;rw[if_neg];rintro rfl;rw[hx] at h;cases h
theorem Zml{a b c m:Int}{L:List Sf}{i k:Nat}{p:Int×Int}(hk:k<3)(hp:0<=p.1/\p.1<=p.2/\p.2<=9999)(h:Zp a b c m L=0):Zp a b c m (Zla L i k p)=0:=by
 refine Zm2 (Zlb _ _ _ _) (fun j x x' hx hx'=> ?_) h;obtain⟨y,hy,rfl⟩:=Zlc hx';rw[hx] at hy;injection hy with hy;subst hy;have Az:=(ZlF h).ok x (List.mem_of_getElem? hx);split
 ·refine⟨Zle _ _ _,fun j hj=> ?_⟩;rw[Zm3 hk hj];split
  ·exact hp
  ·exact Az j
 ·exact⟨rfl,fun j _=>Az j⟩
theorem ZmT{a b c m:Int}{L:List Sf}(hs:Zp a b c m L=0){l:List Int}(hl:l.Pairwise (·<·))(Aj:∀i∈l,0<=i/\i<L.length){p q:Int}{x y:Sf}(ht:Two L l p q x y){k:Nat}(hk:k<3)(hn:Z1m a b c x y k=0){u v:Int}
 (Ln:if(spA x k).2 - (spA y k).1<(spA y k).2 - (spA x k).1 then u=(spA x k).1/\v=(spA y k).2 else u=(spA x k).2/\v=(spA y k).1):
 Zp a b c m (Zla (Zla L p.toNat k (u,u)) q.toNat k (v,v))=0/\Zr (apA a b c (Zla (Zla L p.toNat k (u,u)) q.toNat k (v,v)) l)=2:=by
 obtain⟨hp,hq,Oo,hx,hy⟩:=ht;have Az:=ZlF hs;have h1:=Az.ok x (List.mem_of_getElem? hx) k;have h2:=Az.ok y (List.mem_of_getElem? hy) k;have Ck:=Aj p hp;have Jv:=Aj q hq;have hu:0<=u/\u<=9999/\0<=v/\v<=9999:=by split at Ln<;>omega
 have D0:Zp a b c m (Zla L p.toNat k (u,u))=0:=Zml hk ⟨hu.1,Int.le_refl _,hu.2.1⟩ hs;refine⟨Zml hk ⟨hu.2.2.1,Int.le_refl _,hu.2.2.2⟩ D0,(ZlS hl).2 ?_⟩;have A2:(Zla (Zla L p.toNat k (u,u)) q.toNat k (v,v)).length=L.length:=by rw[Zlb,Zlb]
 obtain⟨x',hx'⟩:∃x',(Zla (Zla L p.toNat k (u,u)) q.toNat k (v,v))[p.toNat]? =some x':=⟨_,List.getElem?_eq_getElem (by omega)⟩;obtain⟨y',hy'⟩:∃y',(Zla (Zla L p.toNat k (u,u)) q.toNat k (v,v))[q.toNat]? =some y':=⟨_,List.getElem?_eq_getElem (by omega)⟩;refine⟨p,q,x',y',⟨hp,hq,Oo,hx',hy'⟩,k,hk,?_⟩;have ex:spA x' k=(u,u):=by
  obtain⟨z,hz,rfl⟩:=Zlc hx';rw[if_neg (by omega)];obtain⟨z',hz',rfl⟩:=Zlc hz;rw[if_pos rfl,Zm3 hk hk,if_pos rfl]
 have ey:spA y' k=(v,v):=by
  obtain⟨z,hz,rfl⟩:=Zlc hy';rw[if_pos rfl,Zm3 hk hk,if_pos rfl]
 have hr:=(Az.r k).1;have R1:¬Z1m a b c x y k=1:=by omega
 have hd:alw a b c k<u - v\/alw a b c k<v - u:=by
  unfold Z1m Z2Q at R1;split at R1
  ·exact absurd rfl R1
  ·split at Ln<;>omega
 rw[Z1m,ex,ey,Z2Q,if_neg (by simp only;omega),if_pos (by simp only;omega)]
theorem ZmP{a b c m:Int}{L L':List Sf}(hs:Zp a b c m L=0){l:List Int}(hl:l.Pairwise (·<·))(Aj:∀i∈l,0<=i/\i<L.length)(hm:Zr (apA a b c L l)≠2)(A2:L'.length=L.length){top:Nat->Int}
 (h1:∀k:Nat,k<3->∀i∈l,∀x,L[i.toNat]? =some x->(spA x k).1<=top k)(h2:∀k:Nat,k<3->top k=0\/∃i∈l,∃x,L[i.toNat]? =some x/\top k=(spA x k).1)
 (h3:∀(i:Nat)(x x':Sf),L[i]? =some x->L'[i]? =some x'->x'.nm=x.nm/\∀k,k<3->spA x' k=if(i:Int)∈l then(min (top k) (spA x k).2,min (top k) (spA x k).2) else spA x k):
 Zp a b c m L'=0/\Zr (apA a b c L' l)=1:=by
 have Az:=ZlF hs;refine⟨Zm2 A2 (fun i x x' hx hx'=> ?_) hs,(Zlp hl).2 fun p q x' y' ⟨hp,hq,Oo,hx',hy'⟩ k hk=> ?_⟩
 ·obtain⟨e1,e2⟩:=h3 i x x' hx hx';refine⟨e1,fun k hk=> ?_⟩;have:=Az.ok x (List.mem_of_getElem? hx) k;rw[e2 k hk];split
  ·rename_i hm;have:=h1 k hk i hm x (by simpa using hx);simp only;omega
  ·exact this
 ·have Ck:=Aj p hp;have Jv:=Aj q hq;obtain⟨x,hx⟩:∃x,L[p.toNat]? =some x:=⟨_,List.getElem?_eq_getElem (by omega)⟩;obtain⟨y,hy⟩:∃y,L[q.toNat]? =some y:=⟨_,List.getElem?_eq_getElem (by omega)⟩;have ex:=(h3 _ x x' hx hx').2 k hk;have ey:=(h3 _ y y' hy hy').2 k hk;rw[Int.toNat_of_nonneg Ck.1,if_pos hp] at ex;rw[Int.toNat_of_nonneg Jv.1,if_pos hq] at ey;have hr:=(Az.r k).1;have key:∀i∈l,∀j∈l,∀s t,L[i.toNat]? =some s->L[j.toNat]? =some t->(spA s k).1 - (spA t k).2<=alw a b c k:=by
   intro i hi j hj s t hs' ht';have o1:=Az.ok s (List.mem_of_getElem? hs') k;have o2:=Az.ok t (List.mem_of_getElem? ht') k;have C3:=Aj i hi;have Ra:=Aj j hj;rcases Int.lt_trichotomy i j with Ce|Ce|Ce
   ·have h4:Z1m a b c s t k≠2:=fun e=>hm ((ZlS hl).2 ⟨i,j,s,t,⟨hi,hj,Ce,hs',ht'⟩,k,hk,e⟩)
    unfold Z1m Z2Q at h4;split at h4
    ·omega
    ·split at h4
     ·exact absurd rfl h4
     ·omega
   ·subst Ce;rw[hs'] at ht';injection ht' with e;subst e;omega
   ·have h4:Z1m a b c t s k≠2:=fun e=>hm ((ZlS hl).2 ⟨j,i,t,s,⟨hj,hi,Ce,ht',hs'⟩,k,hk,e⟩)
    unfold Z1m Z2Q at h4;split at h4
    ·omega
    ·split at h4
     ·exact absurd rfl h4
     ·omega
  have o1:=Az.ok x (List.mem_of_getElem? hx) k;have o2:=Az.ok y (List.mem_of_getElem? hy) k;have b1:top k - (spA y k).2<=alw a b c k:=by
   rcases h2 k hk with e|⟨i,hi,s,hs',e⟩
   ·omega
   ·rw[e];exact key i hi q hq s y hs' hy
  have b2:top k - (spA x k).2<=alw a b c k:=by
   rcases h2 k hk with e|⟨i,hi,s,hs',e⟩
   ·omega
   ·rw[e];exact key i hi p hp s x hs' hx
  rw[Z1m,ex,ey,Z2Q,if_pos];simp only;omega
set_option linter.all false
def ZmJ(L:List Sf)(k:Nat)(t i:Int):Int:=match L[i.toNat]? with
 |some x=>max t (spA x k).1
 |none=>t
def ZmK(L:List Sf)(k:Nat)(l:List Int):Int:=l.foldl (ZmJ L k) 0
theorem ZmM{L:List Sf}{k:Nat}{l:List Int}{i:Int}{x:Sf}(hx:L[i.toNat]? =some x):ZmK L k (l++[i])=max (ZmK L k l) (spA x k).1:=by
 rw[ZmK,List.foldl_append,List.foldl_cons,List.foldl_nil,<-ZmK,ZmJ,hx]
theorem ZmG(L:List Sf)(k:Nat):∀(l:List Int)(t:Int),t<=l.foldl (ZmJ L k) t/\(∀i∈l,∀x,L[i.toNat]? =some x->(spA x k).1<=l.foldl (ZmJ L k) t)/\(l.foldl (ZmJ L k) t=t\/∃i∈l,∃x,L[i.toNat]? =some x/\l.foldl (ZmJ L k) t=(spA x k).1)
 |[],t=>⟨Int.le_refl _,fun i hi=>by simp at hi,.inl rfl⟩
 |j::l,t=>by
  obtain⟨h1,h2,h3⟩:=ZmG L k l (ZmJ L k t j);rw[List.foldl_cons];generalize l.foldl (ZmJ L k) (ZmJ L k t j)=z at h1 h2 h3⊢;cases hj:L[j.toNat]? with
  |none=>
   have e:ZmJ L k t j=t:=by rw[ZmJ,hj]
   rw[e] at h1 h3;refine⟨h1,fun i hi x hx=> ?_,?_⟩
   ·rcases List.mem_cons.1 hi with rfl|hi
    ·rw[hj] at hx;cases hx
    ·exact h2 i hi x hx
   ·rcases h3 with h3|⟨i,hi,x,hx,h3⟩
    ·exact .inl h3
    ·exact .inr ⟨i,List.mem_cons_of_mem _ hi,x,hx,h3⟩
  |some y=>
   have e:ZmJ L k t j=max t (spA y k).1:=by rw[ZmJ,hj]
   rw[e] at h1 h3;refine⟨by omega,fun i hi x hx=> ?_,?_⟩
   ·rcases List.mem_cons.1 hi with rfl|hi
    ·rw[hj] at hx;cases hx;omega
    ·exact h2 i hi x hx
   ·rcases h3 with h3|⟨i,hi,x,hx,h3⟩
    ·by_cases h:t<(spA y k).1
     ·exact .inr ⟨j,List.mem_cons_self,y,hj,by omega⟩
     ·exact .inl (by omega)
    ·exact .inr ⟨i,List.mem_cons_of_mem _ hi,x,hx,h3⟩
def Cl(L LL:List Sf)(l:List Int)(w j:Nat):Prop:=LL.length=L.length/\∀(i:Nat)(x x':Sf),L[i]? =some x->LL[i]? =some x'->x'.nm=x.nm/\∀k:Nat,k<3->spA x' k=if(k<w/\(i:Int)∈l)\/(k=w/\(i:Int)∈l.take j) then(min (ZmK L k l) (spA x k).2,min (ZmK L k l) (spA x k).2) else spA x k
theorem Cl.start(L:List Sf)(l:List Int):Cl L L l 0 0:=by
 refine⟨rfl,fun i x x' h h'=> ?_⟩;rw[h] at h';cases h';refine⟨rfl,fun k _=> ?_⟩;rw[if_neg];rintro(⟨h,_⟩|⟨_,h⟩)
 ·omega
 ·simp at h
section
variable {L LL:List Sf} {l:List Int} {w j:Nat}
theorem Cl.next(h:Cl L LL l w j)(hj:l.length<=j):Cl L LL l (w+1) 0:=by
 refine⟨h.1,fun i x x' hx hx'=>⟨(h.2 i x x' hx hx').1,fun k hk=> ?_⟩⟩;rw[(h.2 i x x' hx hx').2 k hk,List.take_of_length_le hj];by_cases hm:(i:Int)∈l
 ·by_cases hw:k<w+1
  ·rw[if_pos (if e:k=w then .inr ⟨e,hm⟩ else .inl ⟨by omega,hm⟩),if_pos (.inl ⟨hw,hm⟩)]
  ·rw[if_neg (by rintro(⟨h,_⟩|⟨h,_⟩)<;>omega),if_neg (fun h=>h.elim (fun h=>(by omega)) (fun h=>(by have:=h.2;simp at this)))]
 ·rw[if_neg (by rintro(⟨_,h⟩|⟨_,h⟩)<;>exact hm h),if_neg (fun h=>h.elim (fun h=>hm h.2) (fun h=>(by have:=h.2;simp at this)))]
theorem Cl.step(h:Cl L LL l w j)(hw:w<3){i:Nat}(hi:l[j]? =some (i:Int)){x:Sf}(hx:L[i]? =some x):Cl L (Zla LL i w (min (ZmK L w l) (spA x w).2,min (ZmK L w l) (spA x w).2)) l w (j+1):=by
 have ht:l.take (j+1)=l.take j++[(i:Int)]:=Z0G hi;refine⟨by rw[Zlb];exact h.1,fun q y y' hy hy'=> ?_⟩;obtain⟨z,hz,rfl⟩:=Zlc hy';obtain⟨h1,h2⟩:=h.2 q y z hy hz;by_cases e:q=i
 ·subst e;rw[hx] at hy;cases hy;rw[if_pos rfl];refine⟨by rw[Zle];exact h1,fun k hk=> ?_⟩;rw[Zm3 hw hk];by_cases e2:k=w
  ·subst e2;rw[if_pos rfl,if_pos (.inr ⟨rfl,by rw[ht];simp⟩)]
  ·rw[if_neg e2,h2 k hk];by_cases e3:k<w/\(q:Int)∈l
   ·rw[if_pos (.inl e3),if_pos (.inl e3)]
   ·rw[if_neg (fun h=>h.elim e3 (fun h=>e2 h.1)),if_neg (fun h=>h.elim e3 (fun h=>e2 h.1))]
 ·rw[if_neg e];refine⟨h1,fun k hk=> ?_⟩;rw[h2 k hk];have hm:(q:Int)∈l.take (j+1)↔(q:Int)∈l.take j:=by
   rw[ht,List.mem_append,List.mem_singleton];constructor
   ·rintro(h|h)
    ·exact h
    ·omega
   ·exact .inl
  by_cases e3:(k<w/\(q:Int)∈l)\/(k=w/\(q:Int)∈l.take j)
  ·rw[if_pos e3,if_pos (e3.imp id fun h=>⟨h.1,hm.2 h.2⟩)]
  ·rw[if_neg e3,if_neg (fun h=>e3 (h.imp id fun h=>⟨h.1,hm.1 h.2⟩))]
theorem Cl.done{a b c m:Int}(h:Cl L LL l 3 0)(hs:Zp a b c m L=0)(hl:l.Pairwise (·<·))(Aj:∀i∈l,0<=i/\i<L.length)(hm:Zr (apA a b c L l)≠2):Zp a b c m LL=0/\Zr (apA a b c LL l)=1:=by
 refine ZmP hs hl Aj hm h.1 (top:=fun k=>ZmK L k l) (fun k _ i hi x hx=>(ZmG L k l 0).2.1 i hi x hx) (fun k _=>(ZmG L k l 0).2.2) fun i x x' hx hx'=>⟨(h.2 i x x' hx hx').1,fun k hk=> ?_⟩
 rw[(h.2 i x x' hx hx').2 k hk];by_cases hm:(i:Int)∈l
 ·rw[if_pos (.inl ⟨hk,hm⟩),if_pos hm]
 ·rw[if_neg (fun h=>h.elim (fun h=>hm h.2) (fun h=>(by omega))),if_neg hm]
end
end Go.Proofs.Tryq
