import Derived.Test.YtedkbdkbbnemlaaGreatDoorNk28
set_option linter.all false
namespace Go.Proofs.Tryq
set_option maxRecDepth 100000
set_option maxHeartbeats 8000000
open Go Go.Nk Go.RowKit
theorem u68:prog.underlying 68=some (.slice 80):=(underlying_eq 68).trans Tryz.underlying68
theorem i80:prog.info? 80=some Tryz.t80:=by kernel_rfl
theorem t80z:Tryz.t80.zero=some (.agg #[.int .i64 0,.int .i64 0,.int .i64 0,.int .i64 0,.int .i64 0]):=by kernel_rfl
theorem t80s:Tryz.t80.size=5:=by kernel_rfl
theorem t80b:Tryz.t80.bytes=40:=by kernel_rfl
theorem ZaN{w:World}{b:Nat}{A:List Ap}{C:Array Value}(h:w.heap[b]? =some (.cells C 46))(hC:C.toList=A.flatMap apC):RawAp w (some ⟨b,0,none⟩) A:=by
 have key:∀(A:List Ap)(i j:Nat)(x:Ap),A[i]? =some x->j<4->(A.flatMap apC)[i*4+j]? =(apC x)[j]? :=by
  intro A
  induction A with
  |nil=>intro i j x h;simp at h
  |cons y A ih=>
   intro i j x hx hj;rw[List.flatMap_cons];have hl:(apC y).length=4:=rfl;cases i with
   |zero=>
    simp at hx;subst hx;rw[List.getElem?_append_left (by omega)];simp
   |succ i=>
    rw[List.getElem?_append_right (by omega),hl,show(i+1)*4+j - 4=i*4+j by omega];exact ih i j x (by simpa using hx) hj
 intro i x hx;have hc:∀j,j<4->w.cell? ⟨b,0+i*4+j,none⟩=(apC x)[j]? :=by
  intro j hj;rw[Z0 h,Nat.zero_add,<-Array.getElem?_toList,hC,key A i j x hx hj]
 exact⟨b,0,rfl,Z5 h,hc 0 (by omega),hc 1 (by omega),hc 2 (by omega),hc 3 (by omega)⟩
theorem Zcc{w:World}{b:Nat}{x0 x1 x2 y0 y1 y2:Int}(h0:w.heap[b]? =some (.cells #[.int .i64 x0,.int .i64 x1,.int .i64 x2] 3))(h1:w.heap[b+1]? =some (.cells #[.int .i64 y0,.int .i64 y1,.int .i64 y2] 3))
 (h2:w.heap[b+1+1]? =some (.cells #[.slice (some ⟨b,0,none⟩) 3 3,.slice (some ⟨b+1,0,none⟩) 3 3] 27)):RawL w (some ⟨b+1+1,0,none⟩) [[x0,x1,x2],[y0,y1,y2]]:=by
 intro i l hl
 match i,hl with
 |0,hl=>
  obtain rfl:=Option.some.inj hl;exact⟨b+1+1,0,_,3,rfl,Z5 h2,by rw[Z0 h2];rfl,by simp,Z0V h0 rfl⟩
 |1,hl=>
  obtain rfl:=Option.some.inj hl;exact⟨b+1+1,0,_,3,rfl,Z5 h2,by rw[Z0 h2];rfl,by simp,Z0V h1 rfl⟩
theorem Zcd{w:World}{b base:Nat}(h:w.heap[b]? =some (.cells #[] 80))(hb:base<=b):w.ownsRow base 80 5 (.slice (some ⟨b,0,none⟩) 0 0) 0 []:=⟨rfl,.inr ⟨b,0,#[],rfl,hb,h,Nat.le_refl _,by simp[maxLen],rfl,rfl⟩⟩
theorem OwnAp.rawAp{b:Nat}{w:World}{v:Value}{A:List Ap}(h:OwnAp b w v A):∃ao cp,v= .slice ao A.length cp/\RawAp w ao A:=by
 by_cases h0:A=[]
 ·subst h0;rcases h.2 with⟨rfl,_⟩|⟨g,cp,_,rfl,_⟩
  ·exact⟨none,0,rfl,fun i x hx=>by simp at hx⟩
  ·exact⟨_,cp,rfl,fun i x hx=>by simp at hx⟩
 ·have hp:0<A.length:=List.length_pos_iff.2 h0;obtain⟨g,cp,rfl,_,hg⟩:=World.ownsRow.form h hp;refine⟨_,cp,rfl,fun i x hx=> ?_⟩;have key:∀(A:List Ap)(i j:Nat)(x:Ap),A[i]? =some x->j<4->(A.flatMap apC)[i*4+j]? =(apC x)[j]? :=by
   intro A
   induction A with
   |nil=>intro i j x h;simp at h
   |cons y A ih=>
    intro i j x hx hj;rw[List.flatMap_cons];have hl:(apC y).length=4:=rfl;cases i with
    |zero=>
     simp at hx;subst hx;rw[List.getElem?_append_left (by omega)];simp
    |succ i=>
     rw[List.getElem?_append_right (by omega),hl,show(i+1)*4+j - 4=i*4+j by omega];exact ih i j x (by simpa using hx) hj
  have hc:∀j u,j<4->(apC x)[j]? =some u->w.cell? ⟨g,0+i*4+j,none⟩=some u:=by
   intro j u hj hu;have h2:=h.cells (g:=g) rfl (i*4+j) u (by rw[key A i j x hx hj];exact hu);rw[Z0c] at h2;rw[Nat.zero_add];exact h2
  exact⟨g,0,rfl,hg,hc 0 _ (by omega) rfl,hc 1 _ (by omega) rfl,hc 2 _ (by omega) rfl,hc 3 _ (by omega) rfl⟩
theorem Zce(w:World)(hM:Meas w)(E2:Most w)(hd:Deb w):Calls prog 22 #[] w fun e w'=>e= .returned (.bool true)/\Ext w w':=by
 go_enter func22,ntmps22;go_wp2_with fail;refine(Z6U _).mono ?_;rintro e wA ⟨B,rfl,hBe,hEA⟩;rename_i Q K hK;refine hK _ _ ?_;clear hK;go_wp2_with fail;refine(Zar _).mono ?_;rintro e w0 ⟨D,rfl,hDe,hEB⟩;have Fx:=hEA.trans hEB;have Fo:=ZdF (hEB.get hBe);have Oq:RawS w0 (some ⟨D,0,none⟩) exS:=Z6Y hDe rfl;have Qa:=hM.ext Fx;have Br:=E2.ext Fx;have Wh:=hd.ext Fx;have D3:=Ext.rfl' w0;rename_i Q K hK;refine hK _ _ ?_;clear hK;go_wp2_with fail;refine(Z59 [0,1,2] 3 1 rfl (by decide) v_m1 B _ _ (Qa.ext ((((D3.alloc _).alloc _).alloc _))) (Fo.ext ((((D3.alloc _).alloc _).alloc _))) (Z0V (l:=[0,1,2]) (by simp only[Z3,Z2];exact if_pos trivial) rfl)).mono ?_;rintro e w1 ⟨rfl,hE⟩;have Cd:Ext w0 w1:=((((Ext.rfl' w0).alloc _).alloc _).alloc _).trans hE;have gs1:w1.heap[w0.heap.size]? =some (.cells #[.int .i64 10,.int .i64 2,.int .i64 5,.int .i64 3,.slice (some ⟨B,0,none⟩) 7 7] 26):=hE.get (by simp only[Z3,Z2];rw[if_neg (by omega),if_neg (by omega),if_pos trivial]);have gc1:w1.heap[w0.heap.size+1]? =some (.cells #[.int .i64 2,.int .i64 4,.int .i64 1,.int .i64 2,.slice (some ⟨D,0,none⟩) 3 3] 70):=hE.get (by simp only[Z3,Z2];rw[if_neg (by omega),if_pos trivial]);have El:=D3.trans Cd;clear hE
 have Yi:=Z5 gc1;have Yj:=Z5 gs1;have q0:=Z0 gs1 0;have q1:=Z0 gs1 1;have q2:=Z0 gs1 2;have q3:=Z0 gs1 3;have q4:=Z0 gs1 4;have r0:=Z0 gc1 0;have r1:=Z0 gc1 1;have r2:=Z0 gc1 2;have r3:=Z0 gc1 3;have r4:=Z0 gc1 4;simp only[List.getElem?_toArray,List.getElem?_cons_zero,List.getElem?_cons_succ] at q0 r0 q1 r1 q2 r2 q3 r3 q4 r4;rename_i Q K hK;refine hK _ _ ?_;clear hK;go_wp2_with fail;refine(Z59 [0,3] 2 0 rfl (by decide) v_m2 B _ _ (Qa.ext ((El.alloc _))) (Fo.ext ((El.alloc _))) (Z0V (l:=[0,3]) (by simp only[Z3,Z2];exact if_pos trivial) rfl)).mono ?_;rintro e w2 ⟨rfl,hE⟩;have D0:Ext w1 w2:=((Ext.rfl' w1).alloc _).trans hE;have gs2:=D0.get gs1;have gc2:=D0.get gc1;have Dz:=El.trans D0;clear hE;have C9:=Z5 gc2;have Yk:=Z5 gs2;clear Yi Yj;clear q0 r0 q1 r1 q2 r2 q3 r3 q4 r4;have q0:=Z0 gs2 0;have q1:=Z0 gs2 1;have q2:=Z0 gs2 2;have q3:=Z0 gs2 3;have q4:=Z0 gs2 4;have r0:=Z0 gc2 0;have r1:=Z0 gc2 1;have r2:=Z0 gc2 2;have r3:=Z0 gc2 3;have r4:=Z0 gc2 4;simp only[List.getElem?_toArray,List.getElem?_cons_zero,List.getElem?_cons_succ] at q0 r0 q1 r1 q2 r2 q3 r3 q4 r4;rename_i Q K hK;refine hK _ _ ?_;clear hK;go_wp2_with fail;refine(Z59 [0,6] 2 2 rfl (by decide) v_m3 B _ _ (Qa.ext ((Dz.alloc _))) (Fo.ext ((Dz.alloc _))) (Z0V (l:=[0,6]) (by simp only[Z3,Z2];exact if_pos trivial) rfl)).mono ?_
 rintro e w3 ⟨rfl,hE⟩;have Eg:Ext w2 w3:=((Ext.rfl' w2).alloc _).trans hE;have gs3:=Eg.get gs2;have gc3:=Eg.get gc2;have O7:=Dz.trans Eg;clear hE;have S1:=Z5 gc3;have Yl:=Z5 gs3;clear C9 Yk;clear q0 r0 q1 r1 q2 r2 q3 r3 q4 r4;have q0:=Z0 gs3 0;have q1:=Z0 gs3 1;have q2:=Z0 gs3 2;have q3:=Z0 gs3 3;have q4:=Z0 gs3 4;have r0:=Z0 gc3 0;have r1:=Z0 gc3 1;have r2:=Z0 gc3 2;have r3:=Z0 gc3 3;have r4:=Z0 gc3 4;simp only[List.getElem?_toArray,List.getElem?_cons_zero,List.getElem?_cons_succ] at q0 r0 q1 r1 q2 r2 q3 r3 q4 r4;rename_i Q K hK;refine hK _ _ ?_;clear hK;go_wp2_with fail;refine(Zc9 B _ _ (Qa.ext ((O7.alloc _))) (Fo.ext ((O7.alloc _))) (Z0V (l:=[0,2,3]) (by simp only[Z3,Z2];exact if_pos trivial) rfl)).mono ?_;rintro e w4 ⟨v9,rfl,hv9,hE⟩;have Ex:Ext w3 w4:=((Ext.rfl' w3).alloc _).trans hE;have gs4:=Ex.get gs3;have gc4:=Ex.get gc3;have Vh:=O7.trans Ex;obtain⟨a9,c9,rfl,H2⟩:=hv9.rawAp;rw[v_ap.2.2];clear hE;have Ym:=Z5 gc4;have Yn:=Z5 gs4;clear S1 Yl;clear q0 r0 q1 r1 q2 r2 q3 r3 q4 r4;have q0:=Z0 gs4 0;have q1:=Z0 gs4 1;have q2:=Z0 gs4 2;have q3:=Z0 gs4 3;have q4:=Z0 gs4 4;have r0:=Z0 gc4 0;have r1:=Z0 gc4 1;have r2:=Z0 gc4 2;have r3:=Z0 gc4 3;have r4:=Z0 gc4 4
 simp only[List.getElem?_toArray,List.getElem?_cons_zero,List.getElem?_cons_succ] at q0 r0 q1 r1 q2 r2 q3 r3 q4 r4;rename_i Q K hK;refine hK _ _ ?_;clear hK;go_wp2_with fail;refine(ZdC B _ (Qa.ext Vh) (Fo.ext Vh)).mono ?_;rintro e w5 ⟨v11,v12,rfl,Yo,Yp,hE⟩;have Pr:Ext w4 w5:=hE;have gs5:=Pr.get gs4;have gc5:=Pr.get gc4;have Q0:=Vh.trans Pr;obtain⟨a11,c11,rfl,Yq⟩:=Yo.rawL (by decide);obtain⟨a12,c12,rfl,Yr,Ys⟩:=Yp.rawI;clear Ys;clear hE;have Yt:=Z5 gc5;have Yu:=Z5 gs5;clear Ym Yn;clear q0 r0 q1 r1 q2 r2 q3 r3 q4 r4;have q0:=Z0 gs5 0;have q1:=Z0 gs5 1;have q2:=Z0 gs5 2;have q3:=Z0 gs5 3;have q4:=Z0 gs5 4;have r0:=Z0 gc5 0;have r1:=Z0 gc5 1;have r2:=Z0 gc5 2;have r3:=Z0 gc5 3;have r4:=Z0 gc5 4;simp only[List.getElem?_toArray,List.getElem?_cons_zero,List.getElem?_cons_succ] at q0 r0 q1 r1 q2 r2 q3 r3 q4 r4;rename_i Q K hK;refine hK _ _ ?_;clear hK;go_wp2_with fail;refine(Z8I B _ (Qa.ext Q0) (Fo.ext Q0)).mono ?_;rintro e w6 ⟨rfl,hE⟩;have D1:Ext w5 w6:=hE;have gs6:=D1.get gs5;have gc6:=D1.get gc5;have Yv:=Q0.trans D1;clear hE;have Yw:=Z5 gc6;have Yx:=Z5 gs6;clear Yt Yu;clear q0 r0 q1 r1 q2 r2 q3 r3 q4 r4;have q0:=Z0 gs6 0;have q1:=Z0 gs6 1;have q2:=Z0 gs6 2;have q3:=Z0 gs6 3;have q4:=Z0 gs6 4
 have r0:=Z0 gc6 0;have r1:=Z0 gc6 1;have r2:=Z0 gc6 2;have r3:=Z0 gc6 3;have r4:=Z0 gc6 4;simp only[List.getElem?_toArray,List.getElem?_cons_zero,List.getElem?_cons_succ] at q0 r0 q1 r1 q2 r2 q3 r3 q4 r4;rename_i Q K hK;refine hK _ _ ?_;clear hK;go_wp2_with fail;refine(ZdD D _ (Oq.ext Yv)).mono ?_;rintro e w7 ⟨rfl,hE⟩;have Tl:Ext w6 w7:=hE;have gs7:=Tl.get gs6;have gc7:=Tl.get gc6;have Vi:=Yv.trans Tl;clear hE;have Yy:=Z5 gc7;have Yz:=Z5 gs7;clear Yw Yx;clear q0 r0 q1 r1 q2 r2 q3 r3 q4 r4;have q0:=Z0 gs7 0;have q1:=Z0 gs7 1;have q2:=Z0 gs7 2;have q3:=Z0 gs7 3;have q4:=Z0 gs7 4;have r0:=Z0 gc7 0;have r1:=Z0 gc7 1;have r2:=Z0 gc7 2;have r3:=Z0 gc7 3;have r4:=Z0 gc7 4;simp only[List.getElem?_toArray,List.getElem?_cons_zero,List.getElem?_cons_succ] at q0 r0 q1 r1 q2 r2 q3 r3 q4 r4;rename_i Q K hK;refine hK _ _ ?_;clear hK;go_wp2_with fail;refine(ZaK 30 93 100 rfl v_mk1 D _ (Oq.ext ((Vi.alloc _))) (Br.ext ((Vi.alloc _)))).mono ?_;rintro e w8 ⟨rfl,hE⟩;have Tn:Ext w7 w8:=((Ext.rfl' w7).alloc _).trans hE;have gs8:=Tn.get gs7;have gc8:=Tn.get gc7;have Vj:=Vi.trans Tn;have gp8:w8.heap[w7.heap.size]? =some (.cells #[.int .i64 93,.int .i64 102] 48):=hE.get (by simp only[Z3,Z2];exact if_pos trivial)
 clear hE;have Or:=Z5 gc8;have hlu8:=Z5 gs8;clear Yy Yz;clear q0 r0 q1 r1 q2 r2 q3 r3 q4 r4;have q0:=Z0 gs8 0;have q1:=Z0 gs8 1;have q2:=Z0 gs8 2;have q3:=Z0 gs8 3;have q4:=Z0 gs8 4;have r0:=Z0 gc8 0;have r1:=Z0 gc8 1;have r2:=Z0 gc8 2;have r3:=Z0 gc8 3;have r4:=Z0 gc8 4;simp only[List.getElem?_toArray,List.getElem?_cons_zero,List.getElem?_cons_succ] at q0 r0 q1 r1 q2 r2 q3 r3 q4 r4;rename_i Q K hK;refine hK _ _ ?_;clear hK;go_wp2_with fail;refine(ZaK 25 73 80 rfl v_mk2 D _ (Oq.ext ((Vj.alloc _))) (Br.ext ((Vj.alloc _)))).mono ?_;rintro e w9 ⟨rfl,hE⟩;have G6:Ext w8 w9:=((Ext.rfl' w8).alloc _).trans hE;have gs9:=G6.get gs8;have gc9:=G6.get gc8;have Qb:=Vj.trans G6;have gp9:w9.heap[w8.heap.size]? =some (.cells #[.int .i64 93,.int .i64 100] 48):=hE.get (by simp only[Z3,Z2];exact if_pos trivial);clear hE;have hlt9:=Z5 gc9;have hlu9:=Z5 gs9;clear Or hlu8;clear q0 r0 q1 r1 q2 r2 q3 r3 q4 r4;have q0:=Z0 gs9 0;have q1:=Z0 gs9 1;have q2:=Z0 gs9 2;have q3:=Z0 gs9 3;have q4:=Z0 gs9 4;have r0:=Z0 gc9 0;have r1:=Z0 gc9 1;have r2:=Z0 gc9 2;have r3:=Z0 gc9 3;have r4:=Z0 gc9 4;simp only[List.getElem?_toArray,List.getElem?_cons_zero,List.getElem?_cons_succ] at q0 r0 q1 r1 q2 r2 q3 r3 q4 r4
 rename_i Q K hK;refine hK _ _ ?_;clear hK;go_wp2_with fail;refine(ZaL 4 1 rfl v_h1 D _ (Oq.ext ((Qb.alloc _))) (Br.ext ((Qb.alloc _)))).mono ?_;rintro e w10 ⟨rfl,hE⟩;have Jf:Ext w9 w10:=((Ext.rfl' w9).alloc _).trans hE;have gs10:=Jf.get gs9;have gc10:=Jf.get gc9;have Li:=Qb.trans Jf;have gp10:w10.heap[w9.heap.size]? =some (.cells #[.int .i64 73,.int .i64 80] 48):=hE.get (by simp only[Z3,Z2];exact if_pos trivial);clear hE;have To:=Z5 gc10;have Tp:=Z5 gs10;clear hlt9 hlu9;clear q0 r0 q1 r1 q2 r2 q3 r3 q4 r4;have q0:=Z0 gs10 0;have q1:=Z0 gs10 1;have q2:=Z0 gs10 2;have q3:=Z0 gs10 3;have q4:=Z0 gs10 4;have r0:=Z0 gc10 0;have r1:=Z0 gc10 1;have r2:=Z0 gc10 2;have r3:=Z0 gc10 3;have r4:=Z0 gc10 4;simp only[List.getElem?_toArray,List.getElem?_cons_zero,List.getElem?_cons_succ] at q0 r0 q1 r1 q2 r2 q3 r3 q4 r4;rename_i Q K hK;refine hK _ _ ?_;clear hK;go_wp2_with fail;refine(ZaL 3 0 rfl v_h2 D _ (Oq.ext Li) (Br.ext Li)).mono ?_;rintro e w11 ⟨rfl,hE⟩;have Jg:Ext w10 w11:=hE;have gs11:=Jg.get gs10;have gc11:=Jg.get gc10;have Lj:=Li.trans Jg;clear hE;have Tq:=Z5 gc11;have Ts:=Z5 gs11;clear To Tp;clear q0 r0 q1 r1 q2 r2 q3 r3 q4 r4;have q0:=Z0 gs11 0;have q1:=Z0 gs11 1;have q2:=Z0 gs11 2;have q3:=Z0 gs11 3;have q4:=Z0 gs11 4
 have r0:=Z0 gc11 0;have r1:=Z0 gc11 1;have r2:=Z0 gc11 2;have r3:=Z0 gc11 3;have r4:=Z0 gc11 4;simp only[List.getElem?_toArray,List.getElem?_cons_zero,List.getElem?_cons_succ] at q0 r0 q1 r1 q2 r2 q3 r3 q4 r4;rename_i Q K hK;refine hK _ _ ?_;clear hK;go_wp2_with fail;refine(ZdE D _ (Oq.ext Lj) (Br.ext Lj)).mono ?_;rintro e w12 ⟨rfl,hE⟩;have Jh:Ext w11 w12:=hE;have gs12:=Jh.get gs11;have gc12:=Jh.get gc11;have Ll:=Lj.trans Jh;clear hE;have Tt:=Z5 gc12;have Tu:=Z5 gs12;clear Tq Ts;clear q0 r0 q1 r1 q2 r2 q3 r3 q4 r4;have q0:=Z0 gs12 0;have q1:=Z0 gs12 1;have q2:=Z0 gs12 2;have q3:=Z0 gs12 3;have q4:=Z0 gs12 4;have r0:=Z0 gc12 0;have r1:=Z0 gc12 1;have r2:=Z0 gc12 2;have r3:=Z0 gc12 3;have r4:=Z0 gc12 4;simp only[List.getElem?_toArray,List.getElem?_cons_zero,List.getElem?_cons_succ] at q0 r0 q1 r1 q2 r2 q3 r3 q4 r4;rename_i Q K hK;refine hK _ _ ?_;clear hK;go_wp2_with fail;refine(ZaM D _ (Oq.ext Ll) (Br.ext Ll)).mono ?_;rintro e w13 ⟨rfl,hE⟩;have Ji:Ext w12 w13:=hE;have gs13:=Ji.get gs12;have gc13:=Ji.get gc12;have Ot:=Ll.trans Ji;clear hE;have hlt13:=Z5 gc13;have hlu13:=Z5 gs13;clear Tt Tu;clear q0 r0 q1 r1 q2 r2 q3 r3 q4 r4;have q0:=Z0 gs13 0;have q1:=Z0 gs13 1;have q2:=Z0 gs13 2;have q3:=Z0 gs13 3;have q4:=Z0 gs13 4
 have r0:=Z0 gc13 0;have r1:=Z0 gc13 1;have r2:=Z0 gc13 2;have r3:=Z0 gc13 3;have r4:=Z0 gc13 4;simp only[List.getElem?_toArray,List.getElem?_cons_zero,List.getElem?_cons_succ] at q0 r0 q1 r1 q2 r2 q3 r3 q4 r4;rename_i Q K hK;refine hK _ _ ?_;clear hK;have hsz13:=Ot.size;have hDW:∀W,Ext w13 W->∀(j:Nat) u,(exS.flatMap rsC)[j]? =some u->W.cell? ((⟨D,0,none⟩:Addr).add j)=some u:=by
  intro W hW j u hu;rw[Z0c,Z0 (hW.get (Ot.get hDe)),<-Array.getElem?_toList];exact hu
 go_wp2_with (
  at_builtin
  go_loud (refine wpList_append_own _ rfl _ _ _ rfl (w13.heap.size+1+1) 80 Tryz.t80 (.agg #[.int .i64 0,.int .i64 0,.int .i64 0,.int .i64 0,.int .i64 0]) 5 40 u68 i80 t80z t80s t80b rfl (by omega) (.slice (some ⟨w13.heap.size+1+1,0,none⟩) 0 0) 0 [] rfl (Zcd (by simp only[Z3,Z2];exact if_pos trivial) (Nat.le_refl _)) ⟨D,0,none⟩ 3 3 (exS.flatMap rsC) rfl rfl (hDW _ ((((Ext.rfl' w13).alloc _).alloc _).alloc _)) (by decide) (by simp[maxLen]) (by omega) (by simp only[Z2];omega) ?_)
  intro v' w14 Jj Dt _;obtain⟨g14,cp14,rfl,hg14,hg14'⟩:=World.ownsRow.form Jj (by omega);have hE14:Ext w13 w14:=Ext.grown ((((Ext.rfl' w13).alloc _).alloc _).alloc _) Dt (fun k hk=>by simp[Value.ownBlock] at hk<;>omega);have gp14:w14.heap[w13.heap.size]? =some (.cells #[.int .i64 38,.int .i64 48] 48):=Z0m Dt (fun e=>by simp[Value.ownBlock] at e<;>omega) (by simp only[Z3,Z2];rw[if_neg (by omega),if_neg (by omega),if_pos trivial]);have gk14:w14.heap[w13.heap.size+1]? =some (.cells #[.int .i64 2,.int .i64 4,.int .i64 1,.int .i64 2,.slice (some ⟨D,0,none⟩) 3 3] 70):=Z0m Dt (fun e=>by simp[Value.ownBlock] at e<;>omega) (by simp only[Z3,Z2];rw[if_neg (by omega),if_pos trivial]);clear Dt)
 refine(Z3P _ _ _).mono ?_;rintro e w15 ⟨rfl,Jk⟩;have hE15:=hE14.trans Jk;have gp15:=Jk.get gp14;have gk15:=Jk.get gk14;have Ou:=Z00 Jj Jk;rename_i Q K hK;refine hK _ _ ?_;clear hK
 go_wp2_with (
  at_builtin
  go_loud (refine wpList_append_own _ rfl _ _ _ rfl (w13.heap.size+1+1) 80 Tryz.t80 (.agg #[.int .i64 0,.int .i64 0,.int .i64 0,.int .i64 0,.int .i64 0]) 5 40 u68 i80 t80z t80s t80b rfl (by omega) (.slice (some ⟨g14,0,none⟩) 3 cp14) 3 (exS.flatMap rsC) rfl (Ou.alloc _) ⟨w15.heap.size,0,none⟩ 1 1 (rsC ⟨20,70,70,0,0⟩) rfl rfl ?_ (by decide) (by simp[maxLen]) (by omega) (by simp only[Z2];have:=Jk.size;omega) ?_)
  ·intro j u hu;rw[Z0c,Z0 (by rw[Z3,if_pos rfl]),<-Array.getElem?_toList];exact hu
  intro v' w16 Ov Du _;obtain⟨g16,c16,cur,rfl,hg16,hh16,Tv⟩:∃g c cur,v'= .slice (some ⟨g,0,none⟩) (3+1) c/\w13.heap.size+1+1<=g/\w16.heap[g]? =some (.cells cur 80)/\cur.toList.take ((3+1)*5)=exS.flatMap rsC++rsC ⟨20,70,70,0,0⟩:=by
   obtain⟨_,⟨_,h⟩|⟨g,c,cur,h1,h2,h3,_,_,_,h4⟩⟩:=Ov
   ·omega
   ·exact⟨g,c,cur,h1,h2,h3,h4⟩
  have hE16:Ext w13 w16:=Ext.grown (hE15.alloc _) Du (fun k hk=>by simp[Value.ownBlock] at hk<;>omega);have gp16:w16.heap[w13.heap.size]? =some (.cells #[.int .i64 38,.int .i64 48] 48):=Z0m Du (fun e=>by simp[Value.ownBlock] at e<;>omega) (((Ext.rfl' w15).alloc _).get gp15);have gk16:w16.heap[w13.heap.size+1]? =some (.cells #[.int .i64 2,.int .i64 4,.int .i64 1,.int .i64 2,.slice (some ⟨D,0,none⟩) 3 3] 70):=Z0m Du (fun e=>by simp[Value.ownBlock] at e<;>omega) (((Ext.rfl' w15).alloc _).get gk15);clear Du;have y0:=Z0 gk16 0;have y1:=Z0 gk16 1;have y2:=Z0 gk16 2;have y3:=Z0 gk16 3;have y4:=Z0 gk16 4;have z4:=Z8 gk16 4;have hlt16:=Z5 gk16;simp only[List.getElem?_toArray,List.getElem?_cons_zero,List.getElem?_cons_succ] at y0 y1 y2 y3 y4)
 have hEs:=hE16.setCell ⟨w13.heap.size+1,4,none⟩ (.slice (some ⟨g16,0,none⟩) 4 c16) (by simp only;omega);have I0:(w16.setCell ⟨w13.heap.size+1,4,none⟩ (.slice (some ⟨g16,0,none⟩) 4 c16)).heap[g16]? =some (.cells cur 80):=(set_ne (by simp only;omega) _).trans hh16;have gks:=Zb gk16 (i:=4) (.slice (some ⟨g16,0,none⟩) 4 c16);have gps:(w16.setCell ⟨w13.heap.size+1,4,none⟩ (.slice (some ⟨g16,0,none⟩) 4 c16)).heap[w13.heap.size]? =some (.cells #[.int .i64 38,.int .i64 48] 48):=(set_ne (by simp only;omega) _).trans gp16;replace gks:(w16.setCell ⟨w13.heap.size+1,4,none⟩ (.slice (some ⟨g16,0,none⟩) 4 c16)).heap[w13.heap.size+1]? =some (.cells #[.int .i64 2,.int .i64 4,.int .i64 1,.int .i64 2,.slice (some ⟨g16,0,none⟩) 4 c16] 70):=gks;generalize (w16.setCell ⟨w13.heap.size+1,4,none⟩ (.slice (some ⟨g16,0,none⟩) 4 c16))=ws at hEs I0 gks gps⊢;have Ah:=Ot.trans hEs;refine(Zca g16 c16 ws (Z6Y (L:=exS4) I0 (Tv.trans (by rfl))) (Br.ext Ah) (Wh.ext Ah)).mono ?_;rintro e w17 ⟨v33,rfl,hv33,Jl⟩;obtain⟨a33,c33,rfl,hr33,hx33⟩:=hv33.rawI;have gk17:=Jl.get gks;have gp17:=Jl.get gps;have hg17:=Jl.get I0;have Ow:=Ah.trans Jl;clear hx33 y0 y1 y2 y3 y4 z4;have y0:=Z0 gk17 0;have y1:=Z0 gk17 1;have y2:=Z0 gk17 2;have y3:=Z0 gk17 3;have y4:=Z0 gk17 4
 simp only[List.getElem?_toArray,List.getElem?_cons_zero,List.getElem?_cons_succ] at y0 y1 y2 y3 y4;rename_i Q K hK;refine hK _ _ ?_;clear hK;go_wp2_with fail;refine(Zcb g16 c16 w17 (Z6Y (L:=exS4) hg17 (Tv.trans (by rfl))) (Br.ext Ow) (Wh.ext Ow)).mono ?_;rintro e w18 ⟨v35,rfl,hv35,Lm⟩;obtain⟨a35,c35,rfl,hr35,hx35⟩:=hv35.rawI;have Tw:=hr33.ext Lm;have hE18:=hEs.trans (Jl.trans Lm);have Jm:=Ji.trans hE18;have Hq:=Jh.trans Jm;have Db:=Jg.trans Hq;have C1:=Jf.trans Db;have H1:=G6.trans C1;have Gc:=Tn.trans H1;have By:=Tl.trans Gc;have B6:=D1.trans By;have Av:=Pr.trans B6;have hr9z:=H2.ext Av;have Tx:=Yq.ext B6;have Ty:=Yr.ext B6;have gp8z:=H1.get gp8;have gp9z:=C1.get gp9;have gp10z:=Db.get gp10;have gp18z:=Lm.get gp17;have hcz:=Ow.trans Lm;clear hx35 y0 y1 y2 y3 y4 q0 q1 q2 q3 q4 r0 r1 r2 r3 r4 Av B6 By Gc H1 C1 Db Hq Jm Cd D0 Eg Ex Pr D1 Tl Tn G6 Jf Jg Jh Ji El Dz O7 Vh Q0 Yv Vi Vj Qb Li Lj Ll;rename_i Q K hK;refine hK _ _ ?_;clear hK;go_wp2_with fail;refine(Z25 a9 3 c9 (Z0Q 10 2 5 3 exL [0,2,3]) _ 3 3 exA _ v_ap.2.2 rfl (by decide) (hr9z.ext ((Ext.rfl' w18).alloc _)) (ZaN (by simp only[Z3,Z2];exact if_pos trivial) rfl)).mono ?_
 rintro e w19 ⟨rfl,hE⟩;have Tz:=((Ext.rfl' w18).alloc _).trans hE;rw[v_ap.1];clear hE;rename_i Q K hK;refine hK _ _ ?_;clear hK;go_wp2_with fail;refine(Z55 a11 2 c11 [[0,1,2],[3,4,5]] _ 2 2 [[0,1,2],[3,4,5]] _ rfl rfl (by decide) (Tx.ext (((Tz.alloc _).alloc _).alloc _)) (Zcc (b:=w19.heap.size) (by simp only[Z3,Z2];rw[if_neg (by omega),if_neg (by omega),if_pos trivial]) (by simp only[Z3,Z2];rw[if_neg (by omega),if_pos trivial]) (by simp only[Z3,Z2];exact if_pos trivial))).mono ?_;rintro e w20 ⟨rfl,hE⟩;have U0:=Tz.trans (((((Ext.rfl' w19).alloc _).alloc _).alloc _).trans hE);rw[show decide (([[0,1,2],[3,4,5]]:List (List Int))=[[0,1,2],[3,4,5]])=true from by decide];clear hE;rename_i Q K hK;refine hK _ _ ?_;clear hK;go_wp2_with fail;refine(Z1d a12 1 c12 [6] _ 1 1 [6] _ rfl rfl (by decide) (Ty.ext (U0.alloc _)) (Z0V (by simp only[Z3,Z2];exact if_pos trivial) rfl)).mono ?_;rintro e w21 ⟨rfl,hE⟩;have Gq:=U0.trans (((Ext.rfl' w20).alloc _).trans hE);rw[show decide (([6]:List Int)=[6])=true from by decide];clear hE;rename_i Q K hK;refine hK _ _ ?_;clear hK;go_wp2_with fail;obtain⟨w1,O0⟩:∃w1:World,w1=w21:=⟨_,rfl⟩;have gp8w:=Gq.get gp8z;have gp9w:=Gq.get gp9z;have gp10w:=Gq.get gp10z;have gp18w:=Gq.get gp18z
 have Mq:=Tw.ext Gq;have Mr:=hr35.ext Gq;have hcw:=hcz.trans Gq;rw[<-O0] at gp8w gp9w gp10w gp18w Mq Mr hcw⊢;clear O0;have z8:=Zc gp8w;have gz8:=Zet z8.1;have gy8:=Zet z8.2.1;clear z8;have z9:=Zc gp9w;have gz9:=Zet z9.1;have gy9:=Zet z9.2.1;clear z9;have z10:=Zc gp10w;have gz10:=Zet z10.1;have gy10:=Zet z10.2.1;clear z10;have z18:=Zc gp18w;have gz18:=Zet z18.1;have gy18:=Zet z18.2.1;clear z18;refine ZeG 49 (by kernel_rfl) ?_;refine ZeB [0] (by kernel_rfl) (by kernel_rfl) ?_;simp only[ZeD,List.getElem?_cons_succ,List.getElem?_cons_zero,List.cons_append,List.nil_append]
 repeat (go_big_quiet_step (fail))
 refine wpQuiet_nil ?_;refine ZeX 1 (f:=34) (args:= #[.int .i64 93,.int .i64 102]) (v:= .agg #[.int .i64 93,.int .i64 102]) (by kernel_rfl) rfl (by kernel_rfl) rfl (fun W=>by simp[go_sem,execOp,Act.eval]) (fun W _=>Z3P 93 102 W) ?_;go_simp;refine ZeB [2,3,4] (by kernel_rfl) (by kernel_rfl) ?_;simp only[ZeD,List.getElem?_cons_succ,List.getElem?_cons_zero,List.cons_append,List.nil_append]
 repeat (go_big_quiet_step (fail))
 refine wpQuiet_nil ?_;refine ZeX 5 (f:=34) (args:= #[.int .i64 93,.int .i64 100]) (v:= .agg #[.int .i64 93,.int .i64 100]) (by kernel_rfl) rfl (by kernel_rfl) rfl (fun W=>by simp[go_sem,execOp,Act.eval]) (fun W _=>Z3P 93 100 W) ?_;go_simp;refine ZeB [6,7,8,9] (by kernel_rfl) (by kernel_rfl) ?_;simp only[ZeD,List.getElem?_cons_succ,List.getElem?_cons_zero,List.cons_append,List.nil_append]
 repeat (go_big_quiet_step (fail))
 refine wpQuiet_nil ?_;refine ZeX 10 (f:=34) (args:= #[.int .i64 73,.int .i64 80]) (v:= .agg #[.int .i64 73,.int .i64 80]) (by kernel_rfl) rfl (by kernel_rfl) rfl (fun W=>by simp[go_sem,execOp,Act.eval]) (fun W _=>Z3P 73 80 W) ?_;go_simp;refine ZeB [11,12,13,14,15,16,17,18,19,20,21,22,23,24,25,26,27,28,29,30,31,32,33,34] (by kernel_rfl) (by kernel_rfl) ?_;simp only[ZeD,List.getElem?_cons_succ,List.getElem?_cons_zero,List.cons_append,List.nil_append]
 repeat (go_big_quiet_step (fail))
 refine wpQuiet_nil ?_;refine ZeX 35 (f:=34) (args:= #[.int .i64 38,.int .i64 48]) (v:= .agg #[.int .i64 38,.int .i64 48]) (by kernel_rfl) rfl (by kernel_rfl) rfl (fun W=>by simp[go_sem,execOp,Act.eval]) (fun W _=>Z3P 38 48 W) ?_;go_simp;refine ZeB [36,37,38,39] (by kernel_rfl) (by kernel_rfl) ?_;simp only[ZeD,List.getElem?_cons_succ,List.getElem?_cons_zero,List.cons_append,List.nil_append]
 repeat (go_big_quiet_step (fail))
 refine wpQuiet_nil ?_;refine Zfa 40 rfl (by kernel_rfl) rfl (fun W hW=>Zf3 ⟨.slice (some ⟨W.heap.size,0,none⟩) 2 2,W.alloc (.cells #[.int .i64 1,.int .i64 3] 3),by simp[go_sem,execOp,Act.eval],(Ext.rfl' W).alloc _,?_⟩);have m9:RawI (W.alloc (.cells #[.int .i64 1,.int .i64 3] 3)) (some ⟨W.heap.size,0,none⟩) [1,3]:=Z0V ((Z3 _ _ _).trans (if_pos rfl)) rfl;have e9:=hW.alloc (.cells #[.int .i64 1,.int .i64 3] 3);obtain⟨b9,Ox⟩:∃b,b=W.heap.size:=⟨_,rfl⟩;rw[<-Ox] at m9;rw[<-Ox];generalize W.alloc _=W9 at m9 e9⊢;clear Ox hW;clear W;go_simp
 refine ZeX 41 (f:=58) (args:= #[.slice a33 2 c33,.slice (some ⟨b9,0,none⟩) 2 2]) (v:= .bool true) (by kernel_rfl) rfl (by kernel_rfl) rfl (fun W=>by simp[go_sem,execOp,Act.eval]) (fun W hW=>by
  have:=Z1d a33 2 c33 [1,3] (some ⟨b9,0,none⟩) 2 2 [1,3] W rfl rfl (by decide) (Mq.ext (e9.trans hW)) (m9.ext hW)
  rwa [decide_eq_true rfl] at this) ?_
 go_simp;refine ZeB [42,43,44] (by kernel_rfl) (by kernel_rfl) ?_;simp only[ZeD,List.getElem?_cons_succ,List.getElem?_cons_zero,List.cons_append,List.nil_append]
 repeat (go_big_quiet_step (fail))
 refine wpQuiet_nil ?_;refine Zfa 45 rfl (by kernel_rfl) rfl (fun W hW=>Zf3 ⟨.slice (some ⟨W.heap.size,0,none⟩) 3 3,W.alloc (.cells #[.int .i64 0,.int .i64 1,.int .i64 2] 3),by simp[go_sem,execOp,Act.eval],(Ext.rfl' W).alloc _,?_⟩);clear m9;have m9:RawI (W.alloc (.cells #[.int .i64 0,.int .i64 1,.int .i64 2] 3)) (some ⟨W.heap.size,0,none⟩) [0,1,2]:=Z0V ((Z3 _ _ _).trans (if_pos rfl)) rfl;have e9:=(e9.trans hW).alloc (.cells #[.int .i64 0,.int .i64 1,.int .i64 2] 3);obtain⟨b9,Ox⟩:∃b,b=W.heap.size:=⟨_,rfl⟩;rw[<-Ox] at m9;rw[<-Ox];generalize W.alloc _=W9 at m9 e9⊢;clear Ox hW;clear W;go_simp
 refine ZeX 46 (f:=58) (args:= #[.slice a35 3 c35,.slice (some ⟨b9,0,none⟩) 3 3]) (v:= .bool true) (by kernel_rfl) rfl (by kernel_rfl) rfl (fun W=>by simp[go_sem,execOp,Act.eval]) (fun W hW=>by
  have:=Z1d a35 3 c35 [0,1,2] (some ⟨b9,0,none⟩) 3 3 [0,1,2] W rfl rfl (by decide) (Mr.ext (e9.trans hW)) (m9.ext hW)
  rwa [decide_eq_true rfl] at this) ?_
 go_simp;refine ZeB [47,48] (by kernel_rfl) (by kernel_rfl) ?_;simp only[ZeD,List.getElem?_cons_succ,List.getElem?_cons_zero,List.cons_append,List.nil_append]
 repeat (go_big_quiet_step (fail))
 refine wpQuiet_nil ?_;refine Zf6 (by kernel_rfl) (fun W hW=> ?_);have hEf:=Fx.trans (hcw.trans (e9.trans hW));go_wp2;go_ret;exact⟨rfl,hEf⟩
end Go.Proofs.Tryq
namespace Go.Proofs.Tryq
open Go Go.Nk Go.RowKit
set_option linter.all false
end Go.Proofs.Tryq
namespace Go.Proofs.Tryq
set_option maxRecDepth 100000
set_option maxHeartbeats 8000000
open Go Go.Nk Go.RowKit
set_option linter.all false
theorem ZhB(x:Int)(t:List Int):(chooseR (x::t)).tail=(chooseR t).map (x::·)++(chooseR t).tail:=rfl
theorem chooseR_len:∀l:List Int,(chooseR l).length=2 ^ l.length
 |[]=>rfl
 |x::t=>by
  have ih:=chooseR_len t;have h1:(chooseR t).length=(chooseR t).tail.length+1:=by
   have:=congrArg List.length (chooseR_head t);simpa using this
  show([]::((chooseR t).map (x::·)++(chooseR t).tail)).length=_;rw[List.length_cons,List.length_append,List.length_map,List.length_cons,Nat.pow_succ];omega
theorem chooseR_each:∀(l s:List Int),s∈chooseR l->s.length<=l.length
 |[],s,h=>by cases List.mem_singleton.1 h;simp
 |x::t,s,h=>by
  rcases List.mem_cons.1 (show s∈[]::((chooseR t).map (x::·)++(chooseR t).tail) from h) with rfl|h
  ·simp
  ·rcases List.mem_append.1 h with h|h
   ·obtain⟨c,hc,rfl⟩:=List.mem_map.1 h;have:=chooseR_each t c hc;simp;omega
   ·have:=chooseR_each t s (List.mem_of_mem_tail h);simp;omega
theorem Zhw(w:World)(v:Value)(t:TypeId):(w.alloc (.cells #[v] t)).cell? ⟨w.heap.size,0,none⟩=some v/\True:=by
 have h:(w.alloc (.cells #[v] t)).heap[w.heap.size]? =some (.cells #[v] t):=by rw[Z3,if_pos rfl]
 exact⟨Z0 h 0,trivial⟩
theorem RawI.drop{w:World}{b o:Nat}{l:List Int}(h:RawI w (some ⟨b,o,none⟩) l)(i:Nat):RawI w (some ⟨b,o+i,none⟩) (l.drop i):=by
 intro j x hx;rw[List.getElem?_drop] at hx;obtain⟨b',o',e,h1,h2⟩:=h (i+j) x hx;obtain⟨rfl,rfl⟩:b=b'/\o=o':=by simpa using e
 exact⟨b,o+i,rfl,h1,by rw[Nat.add_assoc];exact h2⟩
theorem Zhs(k:Nat):∀(l:List Int)(bl:Option Addr)(cl:Nat)(W:World),l.length=k->k<=9->k<=cl->RawI W bl l->
 Calls prog 127 #[.slice bl k cl] W fun e w'=>∃v,e= .returned v/\Shr W.heap.size w' v (chooseR l)/\Ext W w':=by
 induction k using Nat.strongRecOn with
 |_ k ih=>
 intro l bl cl W hk Jz D2 hl;have A2:Hid ((chooseR l).length<=512):=by
  show _<=_;rw[chooseR_len,hk];exact Nat.pow_le_pow_right (n:=2) (by omega) Jz
 replace hk:Hid (l.length=k):=hk;have E3:Hid (RawI W bl l):=hl;have ih2:Hid (∀m<k,∀(l:List Int)(bl:Option Addr)(cl:Nat)(W:World),l.length=m->m<=9->m<=cl->RawI W bl l->Calls prog 127 #[.slice bl m cl] W fun e w'=>∃v,e= .returned v/\Shr W.heap.size w' v (chooseR l)/\Ext W w'):=ih;clear ih hl;obtain⟨N,hN⟩:∃N,N=W.heap.size:=⟨_,rfl⟩;rw[<-hN]
 have Fo:Shr N (W.alloc (.cells #[.slice none 0 0] 27)) (.slice (some ⟨W.heap.size,0,none⟩) 1 1) [[]]:=
  ⟨(fun h=>nomatch h),[Value.slice none 0 0],Z6s W N 27 #[.slice none 0 0] 1 W.heap.size rfl (by omega) rfl (by decide),World.ownsRow_nil _ _ _ _,trivial⟩
 have Bg:=(Ext.rfl' W).alloc (.cells #[.slice none 0 0] 27);have H0:Hid (chooseR l=[[]]++(chooseR (l.drop 0)).tail):=chooseR_head l;go_enter func127,ntmps127;go_wp2;generalize W.alloc _=W0 at Fo Bg⊢;go_loopw [3,4] (fun v3 v4 wr=>∃(i:Nat)(S:List (List Int)),i<=k/\v4= .int .i64 i/\Ext W wr/\Shr N wr v3 S/\Hid (chooseR l=S++(chooseR (l.drop i)).tail)) (fun _ v4 _=>k - (intOf v4).toNat)
 case atStart=>exact⟨0,[[]],Nat.zero_le _,rfl,Bg,Fo,H0⟩
 case round=>
  clear Fo Bg H0;obtain⟨i,S,hi,rfl,hE,hS,HP⟩:=hrel;by_cases Ds:i=k
  ·have HR:Hid (chooseR l=S):=by show _=_;rw[HP.out,Ds,<-hk.out,List.drop_length];simp[chooseR]
   subst Ds;clear HP;go_wp2;go_ret;exact⟨_,rfl,by rw[HR.out];exact hS,hE⟩
  ·have A3:i<k:=by omega
   have C9:(i:Int)<(k:Int):=by omega
   have Cd:(0:Int)<=(i:Int)+1:=by omega
   have D0:(i:Int)+1<=(k:Int):=by omega
   have Eg:(k:Int)<=(cl:Int):=by omega
   obtain⟨x,hx⟩:∃y,l[i]? =some y:=⟨_,List.getElem?_eq_getElem (by have:=hk.out;omega)⟩;obtain⟨b,o,rfl,Ax,hcx⟩:=E3.out i x hx;have HS:Hid (chooseR l=S++((chooseR (l.drop (i+1))).map (x::·)++(chooseR (l.drop (i+1))).tail)):=by
    show _=_;rw[HP.out,Z0b hx,ZhB]
   have Oy:RawI wr (if cl=i+1 then some ⟨b,o,none⟩ else some ⟨b,o+(i+1),none⟩) (l.drop (i+1)):=by
    split
    ·have:l.drop (i+1)=[]:=List.drop_of_length_le (by have:=hk.out;omega);rw[this];exact fun j y hy=>by simp at hy
    ·exact(E3.out.drop (i+1)).ext hE
   obtain⟨A,hA⟩:∃A:Option Addr,(if cl=i+1 then some ⟨b,o,none⟩ else some ⟨b,o+(i+1),none⟩)=A:=⟨_,rfl⟩;rw[hA] at Oy;have Co:=ih2.out (k - (i+1)) (by omega) (l.drop (i+1)) _ (cl - (i+1)) wr (by rw[List.length_drop,hk.out]) (by omega) (by omega) Oy;clear hx HP;obtain⟨R,Jn⟩:∃R,R=chooseR (l.drop (i+1)):=⟨_,rfl⟩;have A8:R≠[]:=by rw[Jn,chooseR_head];simp
   have Q9:R.length<=512/\S.length<=512:=by
    have h1:=congrArg List.length HS.out;have h2:=A2.out;rw[<-Jn] at h1;simp only[List.length_append,List.length_map] at h1;omega
   have hsl:Hid (∀s∈R,s.length<=9):=by
    intro s hs;rw[Jn] at hs;have h1:=chooseR_each _ _ hs;rw[List.length_drop] at h1;have:=hk.out;omega
   rw[<-Jn] at Co HS;replace Jn:Hid (R=chooseR (l.drop (i+1))):=Jn;replace Q9:Hid (R.length<=512/\S.length<=512):=Q9
   skip
   obtain⟨wo,rfl⟩:∃wo:World,wo=wr:=⟨_,rfl⟩
   go_wp2_with (
    go_at_call 127;(with_reducible refine Co.mono ?_);rintro e w2 ⟨rv,rfl,hR,hF⟩
    obtain⟨rg,rc,rfl,G7,Qw,X3⟩:=hR.own A8;have A5:=hE.trans hF;have Es:=hS.ext hF;replace hR:=hR.le (show N<=wo.heap.size by rw[hN];exact hE.size);have Cz:∀q,u3.ownBlock=some q->q≠rg:=fun q hq=>by have:=(hS.lt hq).2;omega)
   clear Co Oy hA hF hE hS G7 Qw;have HS0:Hid (chooseR l=S++((R.drop 0).map (x::·)++R.tail)):=HS;have HLR:Hid ((chooseR l).length=(S++((R.drop 0).map (x::·)++R.tail)).length):=congrArg List.length HS0.out;clear HS;go_loopw [3,6] (fun v3 v6 wr=>∃(j:Nat)(S:List (List Int)),j<=R.length/\v6= .int .i64 j/\Ext W wr/\Shr N wr v3 S/\Shr N wr (.slice (some ⟨rg,0,none⟩) R.length rc) R/\(∀q,v3.ownBlock=some q->q≠rg)/\Hid (chooseR l=S++((R.drop j).map (x::·)++R.tail))) (fun _ v6 _=>R.length - (intOf v6).toNat)
   case atStart=>exact⟨0,S,Nat.zero_le _,rfl,A5,Es,hR,Cz,HS0⟩
   case round=>
    clear A5 Es hR Cz HS0 HLR Q9;obtain⟨j,S,hj,rfl,hE,hS,hR,Cz,HP⟩:=hrel;by_cases hjr:j=R.length
    ·have HN:Hid (chooseR l=S++(chooseR (l.drop (i+1))).tail):=(by show _=_;rw[HP.out,hjr,List.drop_length,<-Jn.out];rfl);subst hjr;clear HP;go_wp2;exact⟨⟨i+1,S,by omega,by push_cast;rfl,hE,hS,HN⟩,by simp[intOf];omega⟩
    ·have Cb:j<R.length:=(by omega);have hjlt2:(j:Int)<(R.length:Int):=(by omega);obtain⟨s,hs⟩:∃s,R[j]? =some s:=⟨_,List.getElem?_eq_getElem Cb⟩;have G6:=hsl.out s (List.mem_of_getElem? hs);have HN:Hid (chooseR l=(S++[x::s])++((R.drop (j+1)).map (x::·)++R.tail)):=by
      show _=_;rw[HP.out,Z0b hs];simp
     have Q9:R.length<=512:=by
      have h1:=congrArg List.length HP.out;have h2:=A2.out;have h3:R.length<=(chooseR l).length:=by
       rw[Jn.out,chooseR_len,chooseR_len];exact Nat.pow_le_pow_right (n:=2) (by omega) (by rw[List.length_drop];omega)
      omega
     have T4:S.length<=512:=by
      have h1:=congrArg List.length HP.out;have h2:=A2.out;simp only[List.length_append] at h1;omega
     clear HP;go_wp2_with fail;refine Zhk (ExtX fun q=>wr.heap.size<=q\/u3.ownBlock=some q) (by kernel_rfl) ?_;have hD:=(Ext.rfl' wr).drew;have Kb:=hE.trans hD;have U1:=hS.ext hD;have Nt:=hR.ext hD;have D5:=Kb.cellS hcx;obtain⟨sa,sc,Do,Xb,hsc,hsr⟩:=Nt.cells hs;obtain⟨M,hM⟩:∃M,M=wr.heap.size:=⟨_,rfl⟩;have Kc:M<=wr.drew.heap.size:=(by rw[hM];exact Nat.le_refl _);have hNd:N<=wr.drew.heap.size:=(by rw[hN];exact Kb.size);have hcN:¬(M<=b\/u3.ownBlock=some b):=by
      rintro(h|h)
      ·have h1:=hE.size;omega
      ·have:=(hS.lt h).1;omega
     have hrN:¬(M<=rg\/u3.ownBlock=some rg):=by
      rintro(h|h)
      ·have h1:rg<wr.heap.size:=(hR.lt rfl).2;omega
      ·exact Cz _ h rfl
     have hNM:N<=M:=(by rw[hM,hN];exact hE.size);rw[<-hM];generalize wr.drew=Wd at Kb U1 Nt D5 Do hsr Kc hNd⊢;clear hE hS hR hM hD hs;have gc:=GrE.cell (X:=fun q=>M<=q\/u3.ownBlock=some q) hcN D5;have gu:=GrE.cell (X:=fun q=>M<=q\/u3.ownBlock=some q) hrN Do;refine Zh8 (ExtX.pre _) [0,1,2,3,4,6,7,8,9] (by kernel_rfl) (by kernel_rfl) ?_;simp only[ZeD,List.getElem?_cons_succ,List.getElem?_cons_zero,List.cons_append,List.nil_append]
     repeat (go_big_quiet_step (fail))
     refine wpQuiet_nil ?_;refine Zh4 5 rfl (by kernel_rfl) rfl ?_;clear gc gu;refine Zf3 ⟨.slice (some ⟨Wd.heap.size,0,none⟩) 1 1,Wd.alloc (.cells #[.int .i64 x] 3),by simp[go_sem,execOp,Act.eval],Go.Nk.Ext.toX ((Ext.rfl' _).alloc _) _,?_⟩;have h5:OwnI M (Wd.alloc (.cells #[.int .i64 x] 3)) (.slice (some ⟨Wd.heap.size,0,none⟩) 1 1) [x]:=Z6s Wd M 3 #[.int .i64 x] 1 Wd.heap.size rfl Kc rfl (by decide);have eA:=(Ext.rfl' Wd).alloc (.cells #[.int .i64 x] 3);generalize Wd.alloc _=WA at h5 eA⊢;go_simp;refine Zh4 10 rfl (by kernel_rfl) rfl ?_;refine Zhm _ _ rfl M _ [x] rfl h5 sa sc s rfl Xb (hsr.ext eA) (by simp;omega) (Nat.le_trans Kc eA.size) (fun v6 W6 own6 Qc=>⟨Zhv Qc (fun k hk=> .inl (h5.lt k hk).1),?_⟩);have e6:Ext Wd W6:=eA.grown Qc (fun k hk=>by cases hk;exact Nat.le_refl _);rw[List.singleton_append] at own6;go_simp;refine Zh4 11 rfl (by kernel_rfl) rfl ?_;obtain⟨a6,n6,c6,hv6⟩:∃a n c,v6= .slice a n c:=by
      obtain⟨a,c,h,_⟩:=own6.raw2;exact⟨_,_,_,h⟩
     subst hv6;refine Zf3 ⟨.slice (some ⟨W6.heap.size,0,none⟩) 1 1,W6.alloc (.cells #[(.slice a6 n6 c6)] 27),by simp[go_sem,execOp,Act.eval],Go.Nk.Ext.toX ((Ext.rfl' _).alloc _) _,?_⟩;have Qd:=(Zhw W6 (.slice a6 n6 c6) 27).1;have e7:=e6.alloc (.cells #[(.slice a6 n6 c6)] 27);have e67:=(Ext.rfl' W6).alloc (.cells #[(.slice a6 n6 c6)] 27);generalize W6.alloc _=W7 at Qd e7 e67⊢;go_simp;refine Zh4 12 rfl (by kernel_rfl) rfl ?_;refine ZhP _ _ rfl N u3 S rfl (U1.ext e7) W6.heap.size (.slice a6 n6 c6) (x::s) rfl Qd ((own6.ext e67).le hNM) (by omega) (Nat.le_trans hNd e7.size) (fun g cap W8 U2 Qe K5 Or=>⟨Zhv Qe (fun k hk=> .inr hk),?_⟩);have H1:Ext W W8:=(Kb.trans e7).grown Qe (fun k hk=>by rw[<-hN];exact(U1.lt hk).1);have U3:=Shr.grown (Nt.ext e7) (U1.ext e7) Qe (.inr (fun e=>Cz _ e.symm rfl));have hno8:∀q,(some g:Option Nat)=some q->q≠rg:=by
      intro q hq e;have Th:g=q:=Option.some.inj hq;rw[<-Th] at e;rcases K5 with h|h
      ·exact Cz _ h e
      ·have h1:rg<Wd.heap.size:=(Nt.lt rfl).2;have:=e7.size;omega
     go_simp;refine Zh8 (ExtX.pre _) [13] (by kernel_rfl) (by kernel_rfl) ?_;simp only[ZeD,List.getElem?_cons_succ,List.getElem?_cons_zero,List.cons_append,List.nil_append]
     repeat (go_big_quiet_step (fail))
     refine wpQuiet_nil ?_;refine ZhF (by kernel_rfl) ?_;have hjb:(j:Int)<1000:=(by omega);clear Kb U1 Nt D5 Do hsr hcN hrN h5 eA e6 e67 e7 own6 Qd Qe K5 Kc hNd;go_wp2;exact⟨⟨j+1,S++[x::s],by omega,by push_cast;rfl,H1,by simpa using U2,U3,hno8,HN⟩,by simp[intOf];omega⟩
end Go.Proofs.Tryq
namespace Go.Proofs.Tryq
set_option maxRecDepth 100000
set_option maxHeartbeats 2000000
open Go Go.Nk Go.RowKit
theorem Z70(s:ByteArray)(w:World)(hs:s.size<=maxLen):Calls prog 94 #[.string s] w fun e w'=>e= .returned (.bool (Z2d s))/\w'=w:=by
 unfold maxLen at hs;by_cases Az:1<=s.size/\s.size<=12
 ·have Cl:0<s.size:=by omega
  have hN:Z2d s=(Z8N (s[0].toNat:Int)&& !s.data.toList.any ZM):=by
   rw[Z2d,Z5A s Cl,decide_eq_true Az,Bool.true_and]
  rw[hN];clear hN;have Jy:(0:Int)<=(s[0].toNat:Int):=by omega
  have Ax:(s[0].toNat:Int)<256:=by have:=s[0].toNat_lt;omega
  have Cd:(1:Int)<=(s.size:Int):=by omega
  have D0:(s.size:Int)<=12:=by omega
  clear Az;have Dg:=fun w=>Z4r (s.size:Int) 1 12 w
  rw[decide_eq_true (show(1:Int)<=s.size/\(s.size:Int)<=12 from⟨Cd,D0⟩)] at Dg;have Bi:=fun w=>Z4s s[0] w
  cases hl:Z8N (s[0].toNat:Int) with
  |false=>
   rw[hl] at Bi;clear hl Cd D0;go_enter func94,ntmps94
   go_wp2_with (first
    |(go_at_call 93;(with_reducible refine(Dg _).mono ?_);rintro e w ⟨rfl,rfl⟩)
    |(go_at_call 139;(with_reducible refine(Bi _).mono ?_);rintro e w ⟨rfl,rfl⟩))
   go_ret;exact⟨rfl,rfl⟩
  |true=>
   rw[hl] at Bi;rw[Bool.true_and];clear hl;have H:Hid ((s.data.toList.drop 0).any ZM=s.data.toList.any ZM):=rfl;go_enter func94,ntmps94
   go_wp2_with (first
    |(go_at_call 93;(with_reducible refine(Dg _).mono ?_);rintro e w ⟨rfl,rfl⟩)
    |(go_at_call 139;(with_reducible refine(Bi _).mono ?_);rintro e w ⟨rfl,rfl⟩))
   go_loopw [3] (fun v wr=>∃i:Nat,i<=s.size/\v= .int .i64 i/\wr=w/\Hid ((s.data.toList.drop i).any ZM=s.data.toList.any ZM)) (fun v _=>s.size - (intOf v).toNat)
   case atStart=>exact⟨0,Nat.zero_le _,rfl,rfl,H⟩
   case round=>
    obtain⟨i,hi,rfl,rfl,hH⟩:=hrel;clear H Bi Dg;by_cases As:i=s.size
    ·have hz:s.data.toList.any ZM=false:=by
      rw[<-hH.out,List.drop_of_length_le (by rw[Array.length_toList];exact Nat.le_of_eq As.symm)];rfl
     clear hH;have F3:(i:Int)=(s.size:Int):=(by omega);go_wp2;go_ret;exact⟨ZP (a:=true) (by rw[hz];rfl),rfl⟩
    ·have A3:i<s.size:=(by omega);have hx:s.data.toList[i]? =some s[i]:=(by rw[Array.getElem?_toList];exact Array.getElem?_eq_getElem A3);have Ac:Hid (s.data.toList.any ZM=(ZM s[i]||(s.data.toList.drop (i+1)).any ZM)):=(by show _=_;rw[<-hH.out,Z0b hx,List.any_cons]);clear hH;have Bi:=fun w=>Z4s s[i] w
     have F9:=fun w=>ZaO s[i] w
     have Cf:(0:Int)<=(i:Int):=(by omega);have hiL:(i:Int)<(s.size:Int):=(by omega);have go_on:∀{v:Nat->Nat},ZM s[i]=false->Hid ((s.data.toList.drop (i+1)).any ZM=s.data.toList.any ZM):=fun hb=>by show _=_;rw[Ac.out,hb,Bool.false_or]
     have Bj:ZM s[i]=(!Z8N (s[i].toNat:Int)&& !Ze0 (s[i].toNat:Int)):=rfl;cases h1:Z8N (s[i].toNat:Int) with
     |true=>
      rw[h1] at Bi Bj;have hg:=go_on (v:=id) Bj;clear h1 go_on Bj Ac
      go_wp2_with (first
       |(go_at_call 139;(with_reducible refine(Bi _).mono ?_);rintro e w ⟨rfl,rfl⟩))
      exact⟨⟨i+1,by omega,by push_cast;rfl,trivial,hg⟩,by simp[intOf];omega⟩
     |false=>
      rw[h1] at Bi Bj;cases h2:Ze0 (s[i].toNat:Int) with
      |true=>
       rw[h2] at F9 Bj;have hg:=go_on (v:=id) Bj;clear h1 h2 go_on Bj Ac
       go_wp2_with (first
        |(go_at_call 139;(with_reducible refine(Bi _).mono ?_);rintro e w ⟨rfl,rfl⟩)
        |(go_at_call 140;(with_reducible refine(F9 _).mono ?_);rintro e w ⟨rfl,rfl⟩))
       exact⟨⟨i+1,by omega,by push_cast;rfl,trivial,hg⟩,by simp[intOf];omega⟩
      |false=>
       rw[h2] at F9 Bj;have hz:s.data.toList.any ZM=true:=(by rw[Ac.out,Bj];rfl);clear h1 h2 go_on Bj Ac
       go_wp2_with (first
        |(go_at_call 139;(with_reducible refine(Bi _).mono ?_);rintro e w ⟨rfl,rfl⟩)
        |(go_at_call 140;(with_reducible refine(F9 _).mono ?_);rintro e w ⟨rfl,rfl⟩))
       go_ret;exact⟨ZP (a:=false) (by rw[hz];rfl),rfl⟩
 ·have hN:Z2d s=false:=by rw[Z2d,decide_eq_false Az];rfl
  rw[hN];have hd:decide (1<=(s.size:Int)/\(s.size:Int)<=12)=false:=decide_eq_false (by omega);have C2:=fun w=>Z4r (s.size:Int) 1 12 w
  rw[hd] at C2;clear hN hd;go_enter func94,ntmps94
  go_wp2_with (first
   |(go_at_call 93;refine(C2 _).mono ?_;rintro e w ⟨rfl,rfl⟩))
  go_ret;exact⟨rfl,rfl⟩
end Go.Proofs.Tryq
namespace Go.Proofs.Tryq
open Go Go.Nk Go.RowKit
end Go.Proofs.Tryq
