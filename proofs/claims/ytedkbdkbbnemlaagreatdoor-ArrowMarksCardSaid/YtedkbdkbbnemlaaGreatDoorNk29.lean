import Derived.Test.YtedkbdkbbnemlaaGreatDoorNk28
set_option linter.all false
namespace Go.Proofs.Tryq
set_option maxRecDepth 100000
set_option maxHeartbeats 8000000
open Go Go.Nk Go.RowKit
theorem u68:prog.underlying 68=some (.slice 80):=(underlying_eq 68).trans Tryz.underlying68
theorem i80:prog.info? 80=some Tryz.t80:=by kernel_rfl
theorem t80z:Tryz.t80.zero=some (.agg #[.int .i64 0,.int .i64 0,.int .i64 0,.int .i64 0,.int .i64 0]):=by kernel_rfl
theorem t80s:Tryz.t80.size=5:=by kernel_rfl
theorem t80b:Tryz.t80.bytes=40:=by kernel_rfl
theorem ZaN{w:World}{b:Nat}{A:List Ap}{C:Array Value}(h:w.heap[b]? =some (.cells C 46))(hC:C.toList=A.flatMap apC):RawAp w (some ⟨b,0,none⟩) A:=by
 have key:∀(A:List Ap)(i j:Nat)(x:Ap),A[i]? =some x->j<4->(A.flatMap apC)[i*4+j]? =(apC x)[j]? :=by
  intro A
  induction A with
  |nil=>intro i j x h;simp at h
  |cons y A ih=>
   intro i j x hx hj;rw[List.flatMap_cons];have hl:(apC y).length=4:=rfl;cases i with
   |zero=>
    simp at hx;subst hx;rw[List.getElem?_append_left (by omega)];simp
   |succ i=>
    rw[List.getElem?_append_right (by omega),hl,show(i+1)*4+j - 4=i*4+j by omega];exact ih i j x (by simpa using hx) hj
 intro i x hx;have hc:∀j,j<4->w.cell? ⟨b,0+i*4+j,none⟩=(apC x)[j]? :=by
  intro j hj;rw[Z0 h,Nat.zero_add,<-Array.getElem?_toList,hC,key A i j x hx hj]
 exact⟨b,0,rfl,Z5 h,hc 0 (by omega),hc 1 (by omega),hc 2 (by omega),hc 3 (by omega)⟩
theorem Zcc{w:World}{b:Nat}{x0 x1 x2 y0 y1 y2:Int}(h0:w.heap[b]? =some (.cells #[.int .i64 x0,.int .i64 x1,.int .i64 x2] 3))(h1:w.heap[b+1]? =some (.cells #[.int .i64 y0,.int .i64 y1,.int .i64 y2] 3))
 (h2:w.heap[b+1+1]? =some (.cells #[.slice (some ⟨b,0,none⟩) 3 3,.slice (some ⟨b+1,0,none⟩) 3 3] 27)):RawL w (some ⟨b+1+1,0,none⟩) [[x0,x1,x2],[y0,y1,y2]]:=by
 intro i l hl
 match i,hl with
 |0,hl=>
  obtain rfl:=Option.some.inj hl;exact⟨b+1+1,0,_,3,rfl,Z5 h2,by rw[Z0 h2];rfl,by simp,Z0V h0 rfl⟩
 |1,hl=>
  obtain rfl:=Option.some.inj hl;exact⟨b+1+1,0,_,3,rfl,Z5 h2,by rw[Z0 h2];rfl,by simp,Z0V h1 rfl⟩
theorem Zcd{w:World}{b base:Nat}(h:w.heap[b]? =some (.cells #[] 80))(hb:base<=b):w.ownsRow base 80 5 (.slice (some ⟨b,0,none⟩) 0 0) 0 []:=⟨rfl,.inr ⟨b,0,#[],rfl,hb,h,Nat.le_refl _,by simp[maxLen],rfl,rfl⟩⟩
theorem OwnAp.rawAp{b:Nat}{w:World}{v:Value}{A:List Ap}(h:OwnAp b w v A):∃ao cp,v= .slice ao A.length cp/\RawAp w ao A:=by
 by_cases h0:A=[]
 ·subst h0;rcases h.2 with⟨rfl,_⟩|⟨g,cp,_,rfl,_⟩
  ·exact⟨none,0,rfl,fun i x hx=>by simp at hx⟩
  ·exact⟨_,cp,rfl,fun i x hx=>by simp at hx⟩
 ·have hp:0<A.length:=List.length_pos_iff.2 h0;obtain⟨g,cp,rfl,_,hg⟩:=World.ownsRow.form h hp;refine⟨_,cp,rfl,fun i x hx=> ?_⟩;have key:∀(A:List Ap)(i j:Nat)(x:Ap),A[i]? =some x->j<4->(A.flatMap apC)[i*4+j]? =(apC x)[j]? :=by
   intro A
   induction A with
   |nil=>intro i j x h;simp at h
   |cons y A ih=>
    intro i j x hx hj;rw[List.flatMap_cons];have hl:(apC y).length=4:=rfl;cases i with
    |zero=>
     simp at hx;subst hx;rw[List.getElem?_append_left (by omega)];simp
    |succ i=>
     rw[List.getElem?_append_right (by omega),hl,show(i+1)*4+j - 4=i*4+j by omega];exact ih i j x (by simpa using hx) hj
  have hc:∀j u,j<4->(apC x)[j]? =some u->w.cell? ⟨g,0+i*4+j,none⟩=some u:=by
   intro j u hj hu;have h2:=h.cells (g:=g) rfl (i*4+j) u (by rw[key A i j x hx hj];exact hu);rw[Z0c] at h2;rw[Nat.zero_add];exact h2
  exact⟨g,0,rfl,hg,hc 0 _ (by omega) rfl,hc 1 _ (by omega) rfl,hc 2 _ (by omega) rfl,hc 3 _ (by omega) rfl⟩
theorem Zce(w:World)(hM:Meas w)(C0:Most w)(hd:Deb w):Calls prog 22 #[] w fun e w'=>e= .returned (.bool true)/\Ext w w':=by
 go_enter func22,ntmps22;go_wp2_with fail;refine(Z6U _).mono ?_;rintro e wA ⟨B,rfl,hBe,hEA⟩;rename_i Q K hK;refine hK _ _ ?_;clear hK;go_wp2_with fail;refine(Zar _).mono ?_;rintro e w0 ⟨D,rfl,hDe,hEB⟩;have Ft:=hEA.trans hEB;have Hc:=ZdF (hEB.get hBe);have O5:RawS w0 (some ⟨D,0,none⟩) exS:=Z6Y hDe rfl;have Po:=hM.ext Ft;have Bu:=C0.ext Ft;have Vd:=hd.ext Ft;have B8:=Ext.rfl' w0;rename_i Q K hK;refine hK _ _ ?_;clear hK;go_wp2_with fail;refine(Z59 [0,1,2] 3 1 rfl (by decide) v_m1 B _ _ (Po.ext ((((B8.alloc _).alloc _).alloc _))) (Hc.ext ((((B8.alloc _).alloc _).alloc _))) (Z0V (l:=[0,1,2]) (by simp only[Z3,Z2];exact if_pos trivial) rfl)).mono ?_;rintro e w1 ⟨rfl,hE⟩;have Cs:Ext w0 w1:=((((Ext.rfl' w0).alloc _).alloc _).alloc _).trans hE;have gs1:w1.heap[w0.heap.size]? =some (.cells #[.int .i64 10,.int .i64 2,.int .i64 5,.int .i64 3,.slice (some ⟨B,0,none⟩) 7 7] 26):=hE.get (by simp only[Z3,Z2];rw[if_neg (by omega),if_neg (by omega),if_pos trivial]);have gc1:w1.heap[w0.heap.size+1]? =some (.cells #[.int .i64 2,.int .i64 4,.int .i64 1,.int .i64 2,.slice (some ⟨D,0,none⟩) 3 3] 70):=hE.get (by simp only[Z3,Z2];rw[if_neg (by omega),if_pos trivial]);have Ee:=B8.trans Cs;clear hE
 have Xl:=Z5 gc1;have Xm:=Z5 gs1;have q0:=Z0 gs1 0;have q1:=Z0 gs1 1;have q2:=Z0 gs1 2;have q3:=Z0 gs1 3;have q4:=Z0 gs1 4;have r0:=Z0 gc1 0;have r1:=Z0 gc1 1;have r2:=Z0 gc1 2;have r3:=Z0 gc1 3;have r4:=Z0 gc1 4;simp only[List.getElem?_toArray,List.getElem?_cons_zero,List.getElem?_cons_succ] at q0 r0 q1 r1 q2 r2 q3 r3 q4 r4;rename_i Q K hK;refine hK _ _ ?_;clear hK;go_wp2_with fail;refine(Z59 [0,3] 2 0 rfl (by decide) v_m2 B _ _ (Po.ext ((Ee.alloc _))) (Hc.ext ((Ee.alloc _))) (Z0V (l:=[0,3]) (by simp only[Z3,Z2];exact if_pos trivial) rfl)).mono ?_;rintro e w2 ⟨rfl,hE⟩;have Do:Ext w1 w2:=((Ext.rfl' w1).alloc _).trans hE;have gs2:=Do.get gs1;have gc2:=Do.get gc1;have E5:=Ee.trans Do;clear hE;have Cu:=Z5 gc2;have Xn:=Z5 gs2;clear Xl Xm;clear q0 r0 q1 r1 q2 r2 q3 r3 q4 r4;have q0:=Z0 gs2 0;have q1:=Z0 gs2 1;have q2:=Z0 gs2 2;have q3:=Z0 gs2 3;have q4:=Z0 gs2 4;have r0:=Z0 gc2 0;have r1:=Z0 gc2 1;have r2:=Z0 gc2 2;have r3:=Z0 gc2 3;have r4:=Z0 gc2 4;simp only[List.getElem?_toArray,List.getElem?_cons_zero,List.getElem?_cons_succ] at q0 r0 q1 r1 q2 r2 q3 r3 q4 r4;rename_i Q K hK;refine hK _ _ ?_;clear hK;go_wp2_with fail;refine(Z59 [0,6] 2 2 rfl (by decide) v_m3 B _ _ (Po.ext ((E5.alloc _))) (Hc.ext ((E5.alloc _))) (Z0V (l:=[0,6]) (by simp only[Z3,Z2];exact if_pos trivial) rfl)).mono ?_
 rintro e w3 ⟨rfl,hE⟩;have E7:Ext w2 w3:=((Ext.rfl' w2).alloc _).trans hE;have gs3:=E7.get gs2;have gc3:=E7.get gc2;have P8:=E5.trans E7;clear hE;have R8:=Z5 gc3;have Xo:=Z5 gs3;clear Cu Xn;clear q0 r0 q1 r1 q2 r2 q3 r3 q4 r4;have q0:=Z0 gs3 0;have q1:=Z0 gs3 1;have q2:=Z0 gs3 2;have q3:=Z0 gs3 3;have q4:=Z0 gs3 4;have r0:=Z0 gc3 0;have r1:=Z0 gc3 1;have r2:=Z0 gc3 2;have r3:=Z0 gc3 3;have r4:=Z0 gc3 4;simp only[List.getElem?_toArray,List.getElem?_cons_zero,List.getElem?_cons_succ] at q0 r0 q1 r1 q2 r2 q3 r3 q4 r4;rename_i Q K hK;refine hK _ _ ?_;clear hK;go_wp2_with fail;refine(Zc9 B _ _ (Po.ext ((P8.alloc _))) (Hc.ext ((P8.alloc _))) (Z0V (l:=[0,2,3]) (by simp only[Z3,Z2];exact if_pos trivial) rfl)).mono ?_;rintro e w4 ⟨v9,rfl,hv9,hE⟩;have Ei:Ext w3 w4:=((Ext.rfl' w3).alloc _).trans hE;have gs4:=Ei.get gs3;have gc4:=Ei.get gc3;have Um:=P8.trans Ei;obtain⟨a9,c9,rfl,Rw⟩:=hv9.rawAp;rw[v_ap.2.2];clear hE;have Xp:=Z5 gc4;have Xq:=Z5 gs4;clear R8 Xo;clear q0 r0 q1 r1 q2 r2 q3 r3 q4 r4;have q0:=Z0 gs4 0;have q1:=Z0 gs4 1;have q2:=Z0 gs4 2;have q3:=Z0 gs4 3;have q4:=Z0 gs4 4;have r0:=Z0 gc4 0;have r1:=Z0 gc4 1;have r2:=Z0 gc4 2;have r3:=Z0 gc4 3;have r4:=Z0 gc4 4
 simp only[List.getElem?_toArray,List.getElem?_cons_zero,List.getElem?_cons_succ] at q0 r0 q1 r1 q2 r2 q3 r3 q4 r4;rename_i Q K hK;refine hK _ _ ?_;clear hK;go_wp2_with fail;refine(ZdC B _ (Po.ext Um) (Hc.ext Um)).mono ?_;rintro e w5 ⟨v11,v12,rfl,Xr,Xs,hE⟩;have Nc:Ext w4 w5:=hE;have gs5:=Nc.get gs4;have gc5:=Nc.get gc4;have Pe:=Um.trans Nc;obtain⟨a11,c11,rfl,Xt⟩:=Xr.rawL (by decide);obtain⟨a12,c12,rfl,Xu,Xv⟩:=Xs.rawI;clear Xv;clear hE;have Xw:=Z5 gc5;have Xx:=Z5 gs5;clear Xp Xq;clear q0 r0 q1 r1 q2 r2 q3 r3 q4 r4;have q0:=Z0 gs5 0;have q1:=Z0 gs5 1;have q2:=Z0 gs5 2;have q3:=Z0 gs5 3;have q4:=Z0 gs5 4;have r0:=Z0 gc5 0;have r1:=Z0 gc5 1;have r2:=Z0 gc5 2;have r3:=Z0 gc5 3;have r4:=Z0 gc5 4;simp only[List.getElem?_toArray,List.getElem?_cons_zero,List.getElem?_cons_succ] at q0 r0 q1 r1 q2 r2 q3 r3 q4 r4;rename_i Q K hK;refine hK _ _ ?_;clear hK;go_wp2_with fail;refine(Z8I B _ (Po.ext Pe) (Hc.ext Pe)).mono ?_;rintro e w6 ⟨rfl,hE⟩;have D2:Ext w5 w6:=hE;have gs6:=D2.get gs5;have gc6:=D2.get gc5;have Xy:=Pe.trans D2;clear hE;have Xz:=Z5 gc6;have Y0:=Z5 gs6;clear Xw Xx;clear q0 r0 q1 r1 q2 r2 q3 r3 q4 r4;have q0:=Z0 gs6 0;have q1:=Z0 gs6 1;have q2:=Z0 gs6 2;have q3:=Z0 gs6 3;have q4:=Z0 gs6 4
 have r0:=Z0 gc6 0;have r1:=Z0 gc6 1;have r2:=Z0 gc6 2;have r3:=Z0 gc6 3;have r4:=Z0 gc6 4;simp only[List.getElem?_toArray,List.getElem?_cons_zero,List.getElem?_cons_succ] at q0 r0 q1 r1 q2 r2 q3 r3 q4 r4;rename_i Q K hK;refine hK _ _ ?_;clear hK;go_wp2_with fail;refine(ZdD D _ (O5.ext Xy)).mono ?_;rintro e w7 ⟨rfl,hE⟩;have Sr:Ext w6 w7:=hE;have gs7:=Sr.get gs6;have gc7:=Sr.get gc6;have Un:=Xy.trans Sr;clear hE;have Y1:=Z5 gc7;have Y3:=Z5 gs7;clear Xz Y0;clear q0 r0 q1 r1 q2 r2 q3 r3 q4 r4;have q0:=Z0 gs7 0;have q1:=Z0 gs7 1;have q2:=Z0 gs7 2;have q3:=Z0 gs7 3;have q4:=Z0 gs7 4;have r0:=Z0 gc7 0;have r1:=Z0 gc7 1;have r2:=Z0 gc7 2;have r3:=Z0 gc7 3;have r4:=Z0 gc7 4;simp only[List.getElem?_toArray,List.getElem?_cons_zero,List.getElem?_cons_succ] at q0 r0 q1 r1 q2 r2 q3 r3 q4 r4;rename_i Q K hK;refine hK _ _ ?_;clear hK;go_wp2_with fail;refine(ZaK 30 93 100 rfl v_mk1 D _ (O5.ext ((Un.alloc _))) (Bu.ext ((Un.alloc _)))).mono ?_;rintro e w8 ⟨rfl,hE⟩;have Ss:Ext w7 w8:=((Ext.rfl' w7).alloc _).trans hE;have gs8:=Ss.get gs7;have gc8:=Ss.get gc7;have Uo:=Un.trans Ss;have gp8:w8.heap[w7.heap.size]? =some (.cells #[.int .i64 93,.int .i64 102] 48):=hE.get (by simp only[Z3,Z2];exact if_pos trivial)
 clear hE;have Y4:=Z5 gc8;have Y5:=Z5 gs8;clear Y1 Y3;clear q0 r0 q1 r1 q2 r2 q3 r3 q4 r4;have q0:=Z0 gs8 0;have q1:=Z0 gs8 1;have q2:=Z0 gs8 2;have q3:=Z0 gs8 3;have q4:=Z0 gs8 4;have r0:=Z0 gc8 0;have r1:=Z0 gc8 1;have r2:=Z0 gc8 2;have r3:=Z0 gc8 3;have r4:=Z0 gc8 4;simp only[List.getElem?_toArray,List.getElem?_cons_zero,List.getElem?_cons_succ] at q0 r0 q1 r1 q2 r2 q3 r3 q4 r4;rename_i Q K hK;refine hK _ _ ?_;clear hK;go_wp2_with fail;refine(ZaK 25 73 80 rfl v_mk2 D _ (O5.ext ((Uo.alloc _))) (Bu.ext ((Uo.alloc _)))).mono ?_;rintro e w9 ⟨rfl,hE⟩;have He:Ext w8 w9:=((Ext.rfl' w8).alloc _).trans hE;have gs9:=He.get gs8;have gc9:=He.get gc8;have Up:=Uo.trans He;have gp9:w9.heap[w8.heap.size]? =some (.cells #[.int .i64 93,.int .i64 100] 48):=hE.get (by simp only[Z3,Z2];exact if_pos trivial);clear hE;have Y6:=Z5 gc9;have Y7:=Z5 gs9;clear Y4 Y5;clear q0 r0 q1 r1 q2 r2 q3 r3 q4 r4;have q0:=Z0 gs9 0;have q1:=Z0 gs9 1;have q2:=Z0 gs9 2;have q3:=Z0 gs9 3;have q4:=Z0 gs9 4;have r0:=Z0 gc9 0;have r1:=Z0 gc9 1;have r2:=Z0 gc9 2;have r3:=Z0 gc9 3;have r4:=Z0 gc9 4;simp only[List.getElem?_toArray,List.getElem?_cons_zero,List.getElem?_cons_succ] at q0 r0 q1 r1 q2 r2 q3 r3 q4 r4
 rename_i Q K hK;refine hK _ _ ?_;clear hK;go_wp2_with fail;refine(ZaL 4 1 rfl v_h1 D _ (O5.ext ((Up.alloc _))) (Bu.ext ((Up.alloc _)))).mono ?_;rintro e w10 ⟨rfl,hE⟩;have J8:Ext w9 w10:=((Ext.rfl' w9).alloc _).trans hE;have gs10:=J8.get gs9;have gc10:=J8.get gc9;have Kz:=Up.trans J8;have gp10:w10.heap[w9.heap.size]? =some (.cells #[.int .i64 73,.int .i64 80] 48):=hE.get (by simp only[Z3,Z2];exact if_pos trivial);clear hE;have Su:=Z5 gc10;have Sv:=Z5 gs10;clear Y6 Y7;clear q0 r0 q1 r1 q2 r2 q3 r3 q4 r4;have q0:=Z0 gs10 0;have q1:=Z0 gs10 1;have q2:=Z0 gs10 2;have q3:=Z0 gs10 3;have q4:=Z0 gs10 4;have r0:=Z0 gc10 0;have r1:=Z0 gc10 1;have r2:=Z0 gc10 2;have r3:=Z0 gc10 3;have r4:=Z0 gc10 4;simp only[List.getElem?_toArray,List.getElem?_cons_zero,List.getElem?_cons_succ] at q0 r0 q1 r1 q2 r2 q3 r3 q4 r4;rename_i Q K hK;refine hK _ _ ?_;clear hK;go_wp2_with fail;refine(ZaL 3 0 rfl v_h2 D _ (O5.ext Kz) (Bu.ext Kz)).mono ?_;rintro e w11 ⟨rfl,hE⟩;have J9:Ext w10 w11:=hE;have gs11:=J9.get gs10;have gc11:=J9.get gc10;have La:=Kz.trans J9;clear hE;have Sw:=Z5 gc11;have Sy:=Z5 gs11;clear Su Sv;clear q0 r0 q1 r1 q2 r2 q3 r3 q4 r4;have q0:=Z0 gs11 0;have q1:=Z0 gs11 1;have q2:=Z0 gs11 2;have q3:=Z0 gs11 3;have q4:=Z0 gs11 4
 have r0:=Z0 gc11 0;have r1:=Z0 gc11 1;have r2:=Z0 gc11 2;have r3:=Z0 gc11 3;have r4:=Z0 gc11 4;simp only[List.getElem?_toArray,List.getElem?_cons_zero,List.getElem?_cons_succ] at q0 r0 q1 r1 q2 r2 q3 r3 q4 r4;rename_i Q K hK;refine hK _ _ ?_;clear hK;go_wp2_with fail;refine(ZdE D _ (O5.ext La) (Bu.ext La)).mono ?_;rintro e w12 ⟨rfl,hE⟩;have Ja:Ext w11 w12:=hE;have gs12:=Ja.get gs11;have gc12:=Ja.get gc11;have Lb:=La.trans Ja;clear hE;have Sz:=Z5 gc12;have T0:=Z5 gs12;clear Sw Sy;clear q0 r0 q1 r1 q2 r2 q3 r3 q4 r4;have q0:=Z0 gs12 0;have q1:=Z0 gs12 1;have q2:=Z0 gs12 2;have q3:=Z0 gs12 3;have q4:=Z0 gs12 4;have r0:=Z0 gc12 0;have r1:=Z0 gc12 1;have r2:=Z0 gc12 2;have r3:=Z0 gc12 3;have r4:=Z0 gc12 4;simp only[List.getElem?_toArray,List.getElem?_cons_zero,List.getElem?_cons_succ] at q0 r0 q1 r1 q2 r2 q3 r3 q4 r4;rename_i Q K hK;refine hK _ _ ?_;clear hK;go_wp2_with fail;refine(ZaM D _ (O5.ext Lb) (Bu.ext Lb)).mono ?_;rintro e w13 ⟨rfl,hE⟩;have Jb:Ext w12 w13:=hE;have gs13:=Jb.get gs12;have gc13:=Jb.get gc12;have O6:=Lb.trans Jb;clear hE;have hlt13:=Z5 gc13;have hlu13:=Z5 gs13;clear Sz T0;clear q0 r0 q1 r1 q2 r2 q3 r3 q4 r4;have q0:=Z0 gs13 0;have q1:=Z0 gs13 1;have q2:=Z0 gs13 2;have q3:=Z0 gs13 3;have q4:=Z0 gs13 4
 have r0:=Z0 gc13 0;have r1:=Z0 gc13 1;have r2:=Z0 gc13 2;have r3:=Z0 gc13 3;have r4:=Z0 gc13 4;simp only[List.getElem?_toArray,List.getElem?_cons_zero,List.getElem?_cons_succ] at q0 r0 q1 r1 q2 r2 q3 r3 q4 r4;rename_i Q K hK;refine hK _ _ ?_;clear hK;have hsz13:=O6.size;have hDW:∀W,Ext w13 W->∀(j:Nat) u,(exS.flatMap rsC)[j]? =some u->W.cell? ((⟨D,0,none⟩:Addr).add j)=some u:=by
  intro W hW j u hu;rw[Z0c,Z0 (hW.get (O6.get hDe)),<-Array.getElem?_toList];exact hu
 go_wp2_with (
  at_builtin
  go_loud (refine wpList_append_own _ rfl _ _ _ rfl (w13.heap.size+1+1) 80 Tryz.t80 (.agg #[.int .i64 0,.int .i64 0,.int .i64 0,.int .i64 0,.int .i64 0]) 5 40 u68 i80 t80z t80s t80b rfl (by omega) (.slice (some ⟨w13.heap.size+1+1,0,none⟩) 0 0) 0 [] rfl (Zcd (by simp only[Z3,Z2];exact if_pos trivial) (Nat.le_refl _)) ⟨D,0,none⟩ 3 3 (exS.flatMap rsC) rfl rfl (hDW _ ((((Ext.rfl' w13).alloc _).alloc _).alloc _)) (by decide) (by simp[maxLen]) (by omega) (by simp only[Z2];omega) ?_)
  intro v' w14 Jc Dq _;obtain⟨g14,cp14,rfl,hg14,hg14'⟩:=World.ownsRow.form Jc (by omega);have Y8:Ext w13 w14:=Ext.grown ((((Ext.rfl' w13).alloc _).alloc _).alloc _) Dq (fun k hk=>by simp[Value.ownBlock] at hk<;>omega);have gp14:w14.heap[w13.heap.size]? =some (.cells #[.int .i64 38,.int .i64 48] 48):=Z0m Dq (fun e=>by simp[Value.ownBlock] at e<;>omega) (by simp only[Z3,Z2];rw[if_neg (by omega),if_neg (by omega),if_pos trivial]);have gk14:w14.heap[w13.heap.size+1]? =some (.cells #[.int .i64 2,.int .i64 4,.int .i64 1,.int .i64 2,.slice (some ⟨D,0,none⟩) 3 3] 70):=Z0m Dq (fun e=>by simp[Value.ownBlock] at e<;>omega) (by simp only[Z3,Z2];rw[if_neg (by omega),if_pos trivial]);clear Dq)
 refine(Z3P _ _ _).mono ?_;rintro e w15 ⟨rfl,Jd⟩;have Ya:=Y8.trans Jd;have gp15:=Jd.get gp14;have gk15:=Jd.get gk14;have O7:=Z00 Jc Jd;rename_i Q K hK;refine hK _ _ ?_;clear hK
 go_wp2_with (
  at_builtin
  go_loud (refine wpList_append_own _ rfl _ _ _ rfl (w13.heap.size+1+1) 80 Tryz.t80 (.agg #[.int .i64 0,.int .i64 0,.int .i64 0,.int .i64 0,.int .i64 0]) 5 40 u68 i80 t80z t80s t80b rfl (by omega) (.slice (some ⟨g14,0,none⟩) 3 cp14) 3 (exS.flatMap rsC) rfl (O7.alloc _) ⟨w15.heap.size,0,none⟩ 1 1 (rsC ⟨20,70,70,0,0⟩) rfl rfl ?_ (by decide) (by simp[maxLen]) (by omega) (by simp only[Z2];have:=Jd.size;omega) ?_)
  ·intro j u hu;rw[Z0c,Z0 (by rw[Z3,if_pos rfl]),<-Array.getElem?_toList];exact hu
  intro v' w16 O8 Dr _;obtain⟨g16,c16,cur,rfl,hg16,Yb,T1⟩:∃g c cur,v'= .slice (some ⟨g,0,none⟩) (3+1) c/\w13.heap.size+1+1<=g/\w16.heap[g]? =some (.cells cur 80)/\cur.toList.take ((3+1)*5)=exS.flatMap rsC++rsC ⟨20,70,70,0,0⟩:=by
   obtain⟨_,⟨_,h⟩|⟨g,c,cur,h1,h2,h3,_,_,_,h4⟩⟩:=O8
   ·omega
   ·exact⟨g,c,cur,h1,h2,h3,h4⟩
  have Yc:Ext w13 w16:=Ext.grown (Ya.alloc _) Dr (fun k hk=>by simp[Value.ownBlock] at hk<;>omega);have gp16:w16.heap[w13.heap.size]? =some (.cells #[.int .i64 38,.int .i64 48] 48):=Z0m Dr (fun e=>by simp[Value.ownBlock] at e<;>omega) (((Ext.rfl' w15).alloc _).get gp15);have gk16:w16.heap[w13.heap.size+1]? =some (.cells #[.int .i64 2,.int .i64 4,.int .i64 1,.int .i64 2,.slice (some ⟨D,0,none⟩) 3 3] 70):=Z0m Dr (fun e=>by simp[Value.ownBlock] at e<;>omega) (((Ext.rfl' w15).alloc _).get gk15);clear Dr;have y0:=Z0 gk16 0;have y1:=Z0 gk16 1;have y2:=Z0 gk16 2;have y3:=Z0 gk16 3;have y4:=Z0 gk16 4;have z4:=Z8 gk16 4;have hlt16:=Z5 gk16;simp only[List.getElem?_toArray,List.getElem?_cons_zero,List.getElem?_cons_succ] at y0 y1 y2 y3 y4)
 have Yd:=Yc.setCell ⟨w13.heap.size+1,4,none⟩ (.slice (some ⟨g16,0,none⟩) 4 c16) (by simp only;omega);have Hq:(w16.setCell ⟨w13.heap.size+1,4,none⟩ (.slice (some ⟨g16,0,none⟩) 4 c16)).heap[g16]? =some (.cells cur 80):=(set_ne (by simp only;omega) _).trans Yb;have gks:=Zb gk16 (i:=4) (.slice (some ⟨g16,0,none⟩) 4 c16);have gps:(w16.setCell ⟨w13.heap.size+1,4,none⟩ (.slice (some ⟨g16,0,none⟩) 4 c16)).heap[w13.heap.size]? =some (.cells #[.int .i64 38,.int .i64 48] 48):=(set_ne (by simp only;omega) _).trans gp16;replace gks:(w16.setCell ⟨w13.heap.size+1,4,none⟩ (.slice (some ⟨g16,0,none⟩) 4 c16)).heap[w13.heap.size+1]? =some (.cells #[.int .i64 2,.int .i64 4,.int .i64 1,.int .i64 2,.slice (some ⟨g16,0,none⟩) 4 c16] 70):=gks;generalize (w16.setCell ⟨w13.heap.size+1,4,none⟩ (.slice (some ⟨g16,0,none⟩) 4 c16))=ws at Yd Hq gks gps⊢;have Aj:=O6.trans Yd;refine(Zca g16 c16 ws (Z6Y (L:=exS4) Hq (T1.trans (by rfl))) (Bu.ext Aj) (Vd.ext Aj)).mono ?_;rintro e w17 ⟨v33,rfl,Ye,Je⟩;obtain⟨a33,c33,rfl,Yf,Yg⟩:=Ye.rawI;have gk17:=Je.get gks;have gp17:=Je.get gps;have Yh:=Je.get Hq;have O9:=Aj.trans Je;clear Yg y0 y1 y2 y3 y4 z4;have y0:=Z0 gk17 0;have y1:=Z0 gk17 1;have y2:=Z0 gk17 2;have y3:=Z0 gk17 3;have y4:=Z0 gk17 4
 simp only[List.getElem?_toArray,List.getElem?_cons_zero,List.getElem?_cons_succ] at y0 y1 y2 y3 y4;rename_i Q K hK;refine hK _ _ ?_;clear hK;go_wp2_with fail;refine(Zcb g16 c16 w17 (Z6Y (L:=exS4) Yh (T1.trans (by rfl))) (Bu.ext O9) (Vd.ext O9)).mono ?_;rintro e w18 ⟨v35,rfl,Yi,Lc⟩;obtain⟨a35,c35,rfl,Yj,Yk⟩:=Yi.rawI;have T2:=Yf.ext Lc;have Yl:=Yd.trans (Je.trans Lc);have T3:=Jb.trans Yl;have T4:=Ja.trans T3;have Ec:=J9.trans T4;have Bl:=J8.trans Ec;have Pj:=He.trans Bl;have Lm:=Ss.trans Pj;have Bh:=Sr.trans Lm;have Ay:=D2.trans Bh;have Am:=Nc.trans Ay;have Ym:=Rw.ext Am;have T5:=Xt.ext Ay;have T6:=Xu.ext Ay;have gp8z:=Pj.get gp8;have gp9z:=Bl.get gp9;have gp10z:=Ec.get gp10;have gp18z:=Lc.get gp17;have hcz:=O9.trans Lc;clear Yk y0 y1 y2 y3 y4 q0 q1 q2 q3 q4 r0 r1 r2 r3 r4 Am Ay Bh Lm Pj Bl Ec T4 T3 Cs Do E7 Ei Nc D2 Sr Ss He J8 J9 Ja Jb Ee E5 P8 Um Pe Xy Un Uo Up Kz La Lb;rename_i Q K hK;refine hK _ _ ?_;clear hK;go_wp2_with fail;refine(Z25 a9 3 c9 (Z0Q 10 2 5 3 exL [0,2,3]) _ 3 3 exA _ v_ap.2.2 rfl (by decide) (Ym.ext ((Ext.rfl' w18).alloc _)) (ZaN (by simp only[Z3,Z2];exact if_pos trivial) rfl)).mono ?_
 rintro e w19 ⟨rfl,hE⟩;have T7:=((Ext.rfl' w18).alloc _).trans hE;rw[v_ap.1];clear hE;rename_i Q K hK;refine hK _ _ ?_;clear hK;go_wp2_with fail;refine(Z55 a11 2 c11 [[0,1,2],[3,4,5]] _ 2 2 [[0,1,2],[3,4,5]] _ rfl rfl (by decide) (T5.ext (((T7.alloc _).alloc _).alloc _)) (Zcc (b:=w19.heap.size) (by simp only[Z3,Z2];rw[if_neg (by omega),if_neg (by omega),if_pos trivial]) (by simp only[Z3,Z2];rw[if_neg (by omega),if_pos trivial]) (by simp only[Z3,Z2];exact if_pos trivial))).mono ?_;rintro e w20 ⟨rfl,hE⟩;have T8:=T7.trans (((((Ext.rfl' w19).alloc _).alloc _).alloc _).trans hE);rw[show decide (([[0,1,2],[3,4,5]]:List (List Int))=[[0,1,2],[3,4,5]])=true from by decide];clear hE;rename_i Q K hK;refine hK _ _ ?_;clear hK;go_wp2_with fail;refine(Z1d a12 1 c12 [6] _ 1 1 [6] _ rfl rfl (by decide) (T6.ext (T8.alloc _)) (Z0V (by simp only[Z3,Z2];exact if_pos trivial) rfl)).mono ?_;rintro e w21 ⟨rfl,hE⟩;have Ge:=T8.trans (((Ext.rfl' w20).alloc _).trans hE);rw[show decide (([6]:List Int)=[6])=true from by decide];clear hE;rename_i Q K hK;refine hK _ _ ?_;clear hK;go_wp2_with fail;obtain⟨w1,Jn⟩:∃w1:World,w1=w21:=⟨_,rfl⟩;have gp8w:=Ge.get gp8z;have gp9w:=Ge.get gp9z;have gp10w:=Ge.get gp10z;have gp18w:=Ge.get gp18z
 have M8:=T2.ext Ge;have Ma:=Yj.ext Ge;have hcw:=hcz.trans Ge;rw[<-Jn] at gp8w gp9w gp10w gp18w M8 Ma hcw⊢;clear Jn;have z8:=Zc gp8w;have gz8:=Zet z8.1;have gy8:=Zet z8.2.1;clear z8;have z9:=Zc gp9w;have gz9:=Zet z9.1;have gy9:=Zet z9.2.1;clear z9;have z10:=Zc gp10w;have gz10:=Zet z10.1;have gy10:=Zet z10.2.1;clear z10;have z18:=Zc gp18w;have gz18:=Zet z18.1;have gy18:=Zet z18.2.1;clear z18;refine ZeG 49 (by kernel_rfl) ?_;refine ZeB [0] (by kernel_rfl) (by kernel_rfl) ?_;simp only[ZeD,List.getElem?_cons_succ,List.getElem?_cons_zero,List.cons_append,List.nil_append]
 repeat (go_big_quiet_step (fail))
 refine wpQuiet_nil ?_;refine ZeX 1 (f:=34) (args:= #[.int .i64 93,.int .i64 102]) (v:= .agg #[.int .i64 93,.int .i64 102]) (by kernel_rfl) rfl (by kernel_rfl) rfl (fun W=>by simp[go_sem,execOp,Act.eval]) (fun W _=>Z3P 93 102 W) ?_;go_simp;refine ZeB [2,3,4] (by kernel_rfl) (by kernel_rfl) ?_;simp only[ZeD,List.getElem?_cons_succ,List.getElem?_cons_zero,List.cons_append,List.nil_append]
 repeat (go_big_quiet_step (fail))
 refine wpQuiet_nil ?_;refine ZeX 5 (f:=34) (args:= #[.int .i64 93,.int .i64 100]) (v:= .agg #[.int .i64 93,.int .i64 100]) (by kernel_rfl) rfl (by kernel_rfl) rfl (fun W=>by simp[go_sem,execOp,Act.eval]) (fun W _=>Z3P 93 100 W) ?_;go_simp;refine ZeB [6,7,8,9] (by kernel_rfl) (by kernel_rfl) ?_;simp only[ZeD,List.getElem?_cons_succ,List.getElem?_cons_zero,List.cons_append,List.nil_append]
 repeat (go_big_quiet_step (fail))
 refine wpQuiet_nil ?_;refine ZeX 10 (f:=34) (args:= #[.int .i64 73,.int .i64 80]) (v:= .agg #[.int .i64 73,.int .i64 80]) (by kernel_rfl) rfl (by kernel_rfl) rfl (fun W=>by simp[go_sem,execOp,Act.eval]) (fun W _=>Z3P 73 80 W) ?_;go_simp;refine ZeB [11,12,13,14,15,16,17,18,19,20,21,22,23,24,25,26,27,28,29,30,31,32,33,34] (by kernel_rfl) (by kernel_rfl) ?_;simp only[ZeD,List.getElem?_cons_succ,List.getElem?_cons_zero,List.cons_append,List.nil_append]
 repeat (go_big_quiet_step (fail))
 refine wpQuiet_nil ?_;refine ZeX 35 (f:=34) (args:= #[.int .i64 38,.int .i64 48]) (v:= .agg #[.int .i64 38,.int .i64 48]) (by kernel_rfl) rfl (by kernel_rfl) rfl (fun W=>by simp[go_sem,execOp,Act.eval]) (fun W _=>Z3P 38 48 W) ?_;go_simp;refine ZeB [36,37,38,39] (by kernel_rfl) (by kernel_rfl) ?_;simp only[ZeD,List.getElem?_cons_succ,List.getElem?_cons_zero,List.cons_append,List.nil_append]
 repeat (go_big_quiet_step (fail))
 refine wpQuiet_nil ?_;refine Zfa 40 rfl (by kernel_rfl) rfl (fun W hW=>Zf3 ⟨.slice (some ⟨W.heap.size,0,none⟩) 2 2,W.alloc (.cells #[.int .i64 1,.int .i64 3] 3),by simp[go_sem,execOp,Act.eval],(Ext.rfl' W).alloc _,?_⟩);have m9:RawI (W.alloc (.cells #[.int .i64 1,.int .i64 3] 3)) (some ⟨W.heap.size,0,none⟩) [1,3]:=Z0V ((Z3 _ _ _).trans (if_pos rfl)) rfl;have e9:=hW.alloc (.cells #[.int .i64 1,.int .i64 3] 3);obtain⟨b9,Oa⟩:∃b,b=W.heap.size:=⟨_,rfl⟩;rw[<-Oa] at m9;rw[<-Oa];generalize W.alloc _=W9 at m9 e9⊢;clear Oa hW;clear W;go_simp
 refine ZeX 41 (f:=58) (args:= #[.slice a33 2 c33,.slice (some ⟨b9,0,none⟩) 2 2]) (v:= .bool true) (by kernel_rfl) rfl (by kernel_rfl) rfl (fun W=>by simp[go_sem,execOp,Act.eval]) (fun W hW=>by
  have:=Z1d a33 2 c33 [1,3] (some ⟨b9,0,none⟩) 2 2 [1,3] W rfl rfl (by decide) (M8.ext (e9.trans hW)) (m9.ext hW)
  rwa [decide_eq_true rfl] at this) ?_
 go_simp;refine ZeB [42,43,44] (by kernel_rfl) (by kernel_rfl) ?_;simp only[ZeD,List.getElem?_cons_succ,List.getElem?_cons_zero,List.cons_append,List.nil_append]
 repeat (go_big_quiet_step (fail))
 refine wpQuiet_nil ?_;refine Zfa 45 rfl (by kernel_rfl) rfl (fun W hW=>Zf3 ⟨.slice (some ⟨W.heap.size,0,none⟩) 3 3,W.alloc (.cells #[.int .i64 0,.int .i64 1,.int .i64 2] 3),by simp[go_sem,execOp,Act.eval],(Ext.rfl' W).alloc _,?_⟩);clear m9;have m9:RawI (W.alloc (.cells #[.int .i64 0,.int .i64 1,.int .i64 2] 3)) (some ⟨W.heap.size,0,none⟩) [0,1,2]:=Z0V ((Z3 _ _ _).trans (if_pos rfl)) rfl;have e9:=(e9.trans hW).alloc (.cells #[.int .i64 0,.int .i64 1,.int .i64 2] 3);obtain⟨b9,Oa⟩:∃b,b=W.heap.size:=⟨_,rfl⟩;rw[<-Oa] at m9;rw[<-Oa];generalize W.alloc _=W9 at m9 e9⊢;clear Oa hW;clear W;go_simp
 refine ZeX 46 (f:=58) (args:= #[.slice a35 3 c35,.slice (some ⟨b9,0,none⟩) 3 3]) (v:= .bool true) (by kernel_rfl) rfl (by kernel_rfl) rfl (fun W=>by simp[go_sem,execOp,Act.eval]) (fun W hW=>by
  have:=Z1d a35 3 c35 [0,1,2] (some ⟨b9,0,none⟩) 3 3 [0,1,2] W rfl rfl (by decide) (Ma.ext (e9.trans hW)) (m9.ext hW)
  rwa [decide_eq_true rfl] at this) ?_
 go_simp;refine ZeB [47,48] (by kernel_rfl) (by kernel_rfl) ?_;simp only[ZeD,List.getElem?_cons_succ,List.getElem?_cons_zero,List.cons_append,List.nil_append]
 repeat (go_big_quiet_step (fail))
 refine wpQuiet_nil ?_;refine Zf6 (by kernel_rfl) (fun W hW=> ?_);have hEf:=Ft.trans (hcw.trans (e9.trans hW));go_wp2;go_ret;exact⟨rfl,hEf⟩
end Go.Proofs.Tryq
namespace Go.Proofs.Tryq
open Go Go.Nk Go.RowKit
set_option linter.all false
set_option linter.all false
set_option linter.all false
def lessL:List Int->List Int->Bool
 |[],[]=>false
 |[],_::_=>true
 |_::_,[]=>false
 |x::l,y::k=>if x=y then lessL l k else decide (x<y)
set_option linter.all false
theorem ZgE{w:World}{b:Nat}{a0 a1 a2 a3 a4:Value}{t:TypeId}(h:w.heap[b]? =some (.cells #[a0,a1,a2,a3,a4] t)):
 w.cell? ⟨b,0,none⟩=some a0/\w.cell? ⟨b,1,none⟩=some a1/\w.cell? ⟨b,2,none⟩=some a2/\w.cell? ⟨b,3,none⟩=some a3/\w.cell? ⟨b,4,none⟩=some a4:=
 ⟨Z0 h 0,Z0 h 1,Z0 h 2,Z0 h 3,Z0 h 4⟩
set_option linter.all false
def Zj8(r0 r1 r2 r3:Int)(S:List Rs):Bool:=Z20 r0 r1 r2 r3 S (upL S.length)
section
variable {r0 r1 r2 r3:Int} {S:List Rs} (hc:ZC r0 r1 r2 r3 S=0)
include hc
omit hc
theorem Zj5(n:Nat):(upL n).length=n:=by simp[upL]
end
structure Clsh(r0 r1 r2 r3:Int)(S:List Rs)(C T:List Int):Prop where
 ck:C∈chooseR (upL S.length)
 tk:T∈chooseR (upL S.length)
 fit:Z20 r0 r1 r2 r3 S T=true
 none_:Zj8 r0 r1 r2 r3 S=true->C=[]
 two:Zj8 r0 r1 r2 r3 S=false->C.length=2/\Z20 r0 r1 r2 r3 S C=false
 first:∀l,l∈chooseR (upL S.length)->l.length=2->Z20 r0 r1 r2 r3 S l=false->lessL l C=false
 most:∀l,l∈chooseR (upL S.length)->Z20 r0 r1 r2 r3 S l=true->l.length<T.length\/(l.length=T.length/\lessL l T=false)
section
variable {r0 r1 r2 r3:Int} {S:List Rs} {C T:List Int} (hc:ZC r0 r1 r2 r3 S=0) (h:Clsh r0 r1 r2 r3 S C T)
include h
include hc
end
end Go.Proofs.Tryq
namespace Go.Proofs.Tryq
set_option maxRecDepth 100000
set_option maxHeartbeats 4000000
open Go Go.Nk Go.RowKit
set_option linter.all false
def ZT(r0 r1 r2 r3:Int)(S:List Rs)(a:Int):Int:=if ZC r0 r1 r2 r3 S=0 then Zv a else ZC r0 r1 r2 r3 S
def Zkk(r0 r1 r2 r3:Int)(S:List Rs):Int:=if S.length=0 then 9 else if Zj8 r0 r1 r2 r3 S then 0 else 10
theorem Zkm(r0 r1 r2 r3 a:Int)(base:Option Addr)(n cap:Nat)(S:List Rs)(w:World)(A0:S.length=n)(hS:RawS w base S):
 Calls prog 131 #[.agg #[.int .i64 r0,.int .i64 r1,.int .i64 r2,.int .i64 r3,.slice base n cap],.int .i64 a] w fun e w'=>e= .returned (.int .i64 (ZT r0 r1 r2 r3 S a))/\Ext w w':=by
 have hc:=fun W (hW:Ext w W)=>ZfQ r0 r1 r2 r3 base n cap S W A0 (hS.ext hW)
 have Aq:=fun W=>Z4r a 0 90 W
 unfold ZT;by_cases h0:ZC r0 r1 r2 r3 S=0
 ·rw[if_pos h0];simp only[h0] at hc;have hF:Zv a=if decide (0<=a/\a<=90) then 0 else 1:=by unfold Zv okN;rfl
  rw[hF];generalize decide (0<=a/\a<=90)=db at Aq⊢;clear hF;cases db
  all_goals
   go_enter func131,ntmps131
   go_wp2_with (first
    |(go_at_call 63;refine(hc _ ((Ext.rfl' w).alloc _)).mono ?_;rintro e w2 ⟨rfl,A8⟩
      have Ah:=((Ext.rfl' w).alloc _).trans A8)
    |(go_at_call 93;refine(Aq _).mono ?_;rintro e w3 ⟨rfl,rfl⟩))
   go_ret;exact⟨rfl,Ah⟩
 ·rw[if_neg h0];have A7:(ZC r0 r1 r2 r3 S !=0)=true:=by simpa using h0
  generalize ZC r0 r1 r2 r3 S=f at hc A7⊢;go_enter func131,ntmps131
  go_wp2_with (first
   |(go_at_call 63;refine(hc _ ((Ext.rfl' w).alloc _)).mono ?_;rintro e w2 ⟨rfl,A8⟩
     have Ah:=((Ext.rfl' w).alloc _).trans A8))
  go_ret;exact⟨rfl,Ah⟩
theorem Zko(r0 r1 r2 r3:Int)(base:Option Addr)(n cap:Nat)(S:List Rs)(w:World)(A0:S.length=n)(hn:n<=20)(hS:RawS w base S):
 Calls prog 132 #[.agg #[.int .i64 r0,.int .i64 r1,.int .i64 r2,.int .i64 r3,.slice base n cap]] w fun e w'=>e= .returned (.int .i64 (Zkk r0 r1 r2 r3 S))/\Ext w w':=by
 have Cb:=fun W=>Zg9 n W (by omega)
 have Hw:=fun ao cp W (hW:Ext w W)(hI:RawI W ao (upL n))=>Zg2 r0 r1 r2 r3 base n cap S ao n cp (upL n) W A0 hn (Zj5 n) hn (fun j hj=>mem_upL.1 hj) (hS.ext hW) hI
 have Af:=(Ext.rfl' w).alloc (.cells #[.int .i64 r0,.int .i64 r1,.int .i64 r2,.int .i64 r3,.slice base n cap] 70);have hr:(w.alloc (.cells #[.int .i64 r0,.int .i64 r1,.int .i64 r2,.int .i64 r3,.slice base n cap] 70)).heap[w.heap.size]? =some (.cells #[.int .i64 r0,.int .i64 r1,.int .i64 r2,.int .i64 r3,.slice base n cap] 70):=(Z3 _ _ _).trans (if_pos rfl);have hR:Hid (Zkk r0 r1 r2 r3 S=if n=0 then 9 else if Z20 r0 r1 r2 r3 S (upL n) then 0 else 10):=by show _=_;rw[Zkk,Zj8,A0]
 rw[hR.out];generalize Z20 r0 r1 r2 r3 S (upL n)=fb at Hw⊢;clear hR;by_cases h0:n=0
 ·rw[if_pos h0];have e1:((n:Int)==0)=true:=by rw[h0];rfl
  clear h0 Hw Cb;obtain⟨q0,q1,q2,q3,q4⟩:=ZgE hr;go_enter func132,ntmps132;go_wp2_with fail;go_ret;exact⟨rfl,Af⟩
 ·rw[if_neg h0];have e1:((n:Int)==0)=false:=beq_eq_false_iff_ne.2 (by omega);go_enter func132,ntmps132;obtain⟨q0,q1,q2,q3,q4⟩:=ZgE hr;go_wp2_with fail;generalize World.alloc w _=w1 at Af hr q0 q1 q2 q3 q4⊢;have g0:=Zet q0;have g1:=Zet q1;have g2:=Zet q2;have g3:=Zet q3;have g4:=Zet q4;refine ZeG 7 (by kernel_rfl) ?_;refine ZeB [0,1,2,3] (by kernel_rfl) (by kernel_rfl) ?_;simp only[ZeD,List.getElem?_cons_succ,List.getElem?_cons_zero,List.cons_append,List.nil_append]
  repeat (go_big_quiet_step (fail))
  refine wpQuiet_nil ?_;refine Zfa 4 rfl (by kernel_rfl) rfl (fun W hW=>Zfo (f:=44) (args:= #[.int .i64 n]) (by simp[go_sem,execOp,Act.eval]) ?_);refine(Cb W).mono ?_;rintro e W2 ⟨x,rfl,Gt,Ah⟩;obtain⟨ao,cp,rfl,hI,D8⟩:=Gt.rawI;rw[Zj5] at D8⊢;refine⟨.slice ao n cp,rfl,Ah,?_⟩;have Ay:=hW.trans Ah;clear Ah hW Gt;clear W;clear g0 g1 g2 g3 g4 q0 q1 q2 q3 q4;replace hr:=Ay.get hr;obtain⟨q0,q1,q2,q3,q4⟩:=ZgE hr;have g0:=Zet q0;have g1:=Zet q1;have g2:=Zet q2;have g3:=Zet q3;have g4:=Zet q4;go_simp;refine ZeX 5 (f:=43) (args:= #[.agg #[.int .i64 r0,.int .i64 r1,.int .i64 r2,.int .i64 r3,.slice base n cap],.slice ao n cp]) (v:= .bool fb) (by kernel_rfl) rfl (by kernel_rfl) rfl (fun W=>by simp[go_sem,execOp,Act.eval]) (fun W hW=>Hw ao cp W (Af.trans (Ay.trans hW)) (hI.ext hW)) ?_;go_simp;refine ZeB [6] (by kernel_rfl) (by kernel_rfl) ?_;simp only[ZeD,List.getElem?_cons_succ,List.getElem?_cons_zero,List.cons_append,List.nil_append]
  repeat (go_big_quiet_step (fail))
  refine wpQuiet_nil ?_;refine Zf6 (by kernel_rfl) (fun W hW=> ?_);have Bh:=Af.trans (Ay.trans hW);clear Af Ay hW hr q0 q1 q2 q3 q4 g0 g1 g2 g3 g4 hI D8 Hw Cb;cases fb
  all_goals
   go_wp2_with fail
   go_ret;exact⟨rfl,Bh⟩
theorem Zkl(r0 r1 r2 r3 d:Int)(base:Option Addr)(n cap:Nat)(S:List Rs)(w:World)(A0:S.length=n)(hn:n<=20)(h0:0<n)(hS:RawS w base S):
 Calls prog 133 #[.agg #[.int .i64 r0,.int .i64 r1,.int .i64 r2,.int .i64 r3,.slice base n cap],.int .i64 d] w fun e w'=>e= .returned (.agg #[.int .i64 (Z57 r0 r1 r2 r3 S d (upL n)).1,.int .i64 (Z57 r0 r1 r2 r3 S d (upL n)).2])/\Ext w w':=by
 have Cb:=fun W=>Zg9 n W (by omega)
 have C9:=fun ao cp W (hW:Ext w W)(hI:RawI W ao (upL n))=>Zg1 r0 r1 r2 r3 base n cap S ao n cp (upL n) d W A0 hn (Zj5 n) hn h0 (fun j hj=>mem_upL.1 hj) (hS.ext hW) hI
 generalize (Z57 r0 r1 r2 r3 S d (upL n)).1=xa at C9⊢;generalize (Z57 r0 r1 r2 r3 S d (upL n)).2=xb at C9⊢;have Af:=((Ext.rfl' w).alloc (.cells #[.int .i64 r0,.int .i64 r1,.int .i64 r2,.int .i64 r3,.slice base n cap] 70)).alloc (.cells #[.int .i64 0,.int .i64 0] 48);have hr:((w.alloc (.cells #[.int .i64 r0,.int .i64 r1,.int .i64 r2,.int .i64 r3,.slice base n cap] 70)).alloc (.cells #[.int .i64 0,.int .i64 0] 48)).heap[w.heap.size]? =some (.cells #[.int .i64 r0,.int .i64 r1,.int .i64 r2,.int .i64 r3,.slice base n cap] 70):=by simp only[Z3,Z2];rw[if_neg (by omega),if_pos trivial]
 have hz:((w.alloc (.cells #[.int .i64 r0,.int .i64 r1,.int .i64 r2,.int .i64 r3,.slice base n cap] 70)).alloc (.cells #[.int .i64 0,.int .i64 0] 48)).heap[w.heap.size+1]? =some (.cells #[.int .i64 0,.int .i64 0] 48):=by simp only[Z3,Z2];rw[if_pos trivial]
 go_enter func133,ntmps133;go_wp2_with fail;generalize World.alloc _ _=w1 at Af hr hz⊢;obtain⟨q0,q1,q2,q3,q4⟩:=ZgE hr;have g0:=Zet q0;have g1:=Zet q1;have g2:=Zet q2;have g3:=Zet q3;have g4:=Zet q4;refine ZeG 7 (by kernel_rfl) ?_;refine ZeB [0,1,2,3,5] (by kernel_rfl) (by kernel_rfl) ?_;simp only[ZeD,List.getElem?_cons_succ,List.getElem?_cons_zero,List.cons_append,List.nil_append]
 repeat (go_big_quiet_step (fail))
 refine wpQuiet_nil ?_;refine Zfa 4 rfl (by kernel_rfl) rfl (fun W hW=>Zfo (f:=44) (args:= #[.int .i64 n]) (by simp[go_sem,execOp,Act.eval]) ?_);refine(Cb W).mono ?_;rintro e W2 ⟨x,rfl,Gt,Ah⟩;obtain⟨ao,cp,rfl,hI,D8⟩:=Gt.rawI;rw[Zj5] at D8⊢;refine⟨.slice ao n cp,rfl,Ah,?_⟩;have Ay:=hW.trans Ah;clear Ah hW Gt;clear W;clear g0 g1 g2 g3 g4 q0 q1 q2 q3 q4;replace hr:=Ay.get hr;replace hz:=Ay.get hz;obtain⟨q0,q1,q2,q3,q4⟩:=ZgE hr;have g0:=Zet q0;have g1:=Zet q1;have g2:=Zet q2;have g3:=Zet q3;have g4:=Zet q4;go_simp;refine ZeX 6 (f:=102) (args:= #[.agg #[.int .i64 r0,.int .i64 r1,.int .i64 r2,.int .i64 r3,.slice base n cap],.slice ao n cp,.int .i64 d]) (v:= .agg #[.int .i64 xa,.int .i64 xb]) (by kernel_rfl) rfl (by kernel_rfl) rfl (fun W=>by simp[go_sem,execOp,Act.eval]) (fun W hW=>C9 ao cp W (Af.trans (Ay.trans hW)) (hI.ext hW)) ?_;go_simp;refine Zfp 1 (by kernel_rfl) (fun W hW=> ?_);simp only[List.drop_succ_cons,List.drop_zero];replace hz:=hW.get hz;have Az:=Af.trans (Ay.trans hW);have hP:=set_pair hz (.int .i64 xa) (.int .i64 xb);have Ju:=(Az.setCell ⟨w.heap.size+1,0,none⟩ (.int .i64 xa) (show w.heap.size<=w.heap.size+1 by omega)).setCell ⟨w.heap.size+1,1,none⟩ (.int .i64 xb) (show w.heap.size<=w.heap.size+1 by omega)
 have g:=Zc hz;have p0:=g.1;have p1:=g.2.1;have p2:=g.2.2.1;have p3:=g.2.2.2;clear g Az Af Ay hW hr Cb C9 hI D8 q0 q1 q2 q3 q4 g0 g1 g2 g3 g4;go_wp2_with fail;generalize (W.setCell ⟨w.heap.size+1,0,none⟩ (.int .i64 xa)).setCell ⟨w.heap.size+1,1,none⟩ (.int .i64 xb)=Y at hP Ju⊢;clear p0 p1 p2 p3 hz;refine Zfm ?_;have g:=Zc hP;have p0:=g.1;have p1:=g.2.1;clear g;go_wp2;refine bodyPost_ret (v:= .agg #[.int .i64 xa,.int .i64 xb]) ((Z07 rfl _ _ _).trans ?_) rfl ⟨rfl,Ju⟩;simp[go_sem,p0,p1]
set_option linter.all false
theorem Zkr{r0 r1 r2 r3:Int}{S:List Rs}(hc:ZC r0 r1 r2 r3 S=0):Z1r r0 r1 r2 r3 (S.map Ze)=if Zj8 r0 r1 r2 r3 S then 0 else 10:=by
 have Br:=Zav hc;have h1:1<=2 ^ S.length:=Nat.one_le_two_pow;have:=Z6X Br (k:=2 ^ S.length - 1) (by omega);rw[ZfU Br.len] at this;rw[Z1r,List.length_map,ZfY,this];rfl
theorem ZkC{r0 r1 r2 r3:Int}{S:List Rs}(rs:List Int):firstV (Zy r0 r1 r2 r3 S rs)=if ZC r0 r1 r2 r3 S=0 then(if firstV rs=0 then Zkk r0 r1 r2 r3 S else firstV rs) else ZC r0 r1 r2 r3 S:=by
 have key:∀(rs t:List Int),firstV (rs++t)=if firstV rs=0 then firstV t else firstV rs:=by
  intro rs t
  induction rs with
  |nil=>rfl
  |cons x rs ih=>
   rw[List.cons_append,firstV,firstV];by_cases hx:x=0
   ·rw[if_pos hx,if_pos hx,ih]
   ·rw[if_neg hx,if_neg hx,if_neg hx]
 unfold Zy;rw[firstV];by_cases hc:ZC r0 r1 r2 r3 S=0
 ·rw[if_pos hc,if_pos hc,key];have hr:firstV [ZdW S.length,Z1r r0 r1 r2 r3 (S.map Ze)]=Zkk r0 r1 r2 r3 S:=by
   rw[Zkr hc,Zkk];by_cases h0:S.length=0
   ·have hn:ZdW S.length=9:=if_pos h0;rw[hn,if_pos h0];rfl
   ·have hn:ZdW S.length=0:=if_neg h0;rw[hn,if_neg h0];cases Zj8 r0 r1 r2 r3 S<;>rfl
  rw[hr]
 ·rw[if_neg hc,if_neg hc]
theorem Zkn{r0 r1 r2 r3:Int}{S:List Rs}(hc:ZC r0 r1 r2 r3 S=0)(h:Zkk r0 r1 r2 r3 S=0):Fine r0 r1 r2 r3 S:=by
 unfold Zkk at h;split at h
 ·omega
 ·rename_i h0;split at h
  ·rename_i h1;exact⟨hc,fun e=>h0 (by rw[e];rfl),h1⟩
  ·omega
theorem Zkp{r0 r1 r2 r3 a:Int}{S:List Rs}(h:ZT r0 r1 r2 r3 S a=0):ZC r0 r1 r2 r3 S=0/\Zv a=0:=by
 unfold ZT at h;split at h
 ·rename_i h0;exact⟨h0,h⟩
 ·rename_i h0;exact absurd h h0
theorem ZkD(r0 r1 r2 r3 a:Int)(S:List Rs):markF r0 r1 r2 r3 S a=if ZT r0 r1 r2 r3 S a=0 then Zkk r0 r1 r2 r3 S else ZT r0 r1 r2 r3 S a:=by
 rw[markF,ZkC,ZT];have e:firstV [Zv a]=Zv a:=by
  rw[firstV];split
  ·rename_i h;rw[h];rfl
  ·rfl
 rw[e];by_cases hc:ZC r0 r1 r2 r3 S=0
 ·rw[if_pos hc,if_pos hc]
 ·rw[if_neg hc,if_neg hc,if_neg hc]
theorem Zkv(r0 r1 r2 r3 a:Int)(base:Option Addr)(n cap:Nat)(S:List Rs)(w:World)(A0:S.length=n)(hn:n<=20)(hS:RawS w base S):
 Calls prog 77 #[.agg #[.int .i64 r0,.int .i64 r1,.int .i64 r2,.int .i64 r3,.slice base n cap],.int .i64 a] w fun e w'=>e= .returned (.tuple #[.agg #[.int .i64 (Zw r0 r1 r2 r3 S a).1,.int .i64 (Zw r0 r1 r2 r3 S a).2],.int .i64 (markF r0 r1 r2 r3 S a)])/\Ext w w':=by
 have hA:=fun W (hW:Ext w W)=>Zkm r0 r1 r2 r3 a base n cap S W A0 (hS.ext hW)
 have hB:=fun W (hW:Ext w W)=>Zko r0 r1 r2 r3 base n cap S W A0 hn (hS.ext hW)
 have B5:=ZkD r0 r1 r2 r3 a S;have Au:=((Ext.rfl' w).alloc (.cells #[.int .i64 r0,.int .i64 r1,.int .i64 r2,.int .i64 r3,.slice base n cap] 70)).alloc (.cells #[.int .i64 0,.int .i64 0] 48);have Bz:((w.alloc (.cells #[.int .i64 r0,.int .i64 r1,.int .i64 r2,.int .i64 r3,.slice base n cap] 70)).alloc (.cells #[.int .i64 0,.int .i64 0] 48)).heap[w.heap.size]? =some (.cells #[.int .i64 r0,.int .i64 r1,.int .i64 r2,.int .i64 r3,.slice base n cap] 70):=by simp only[Z3,Z2];rw[if_neg (by omega),if_pos trivial]
 have Gi:((w.alloc (.cells #[.int .i64 r0,.int .i64 r1,.int .i64 r2,.int .i64 r3,.slice base n cap] 70)).alloc (.cells #[.int .i64 0,.int .i64 0] 48)).heap[w.heap.size+1]? =some (.cells #[.int .i64 0,.int .i64 0] 48):=by simp only[Z3,Z2];rw[if_pos trivial]
 by_cases h1:ZT r0 r1 r2 r3 S a=0
 ·rw[if_pos h1] at B5;simp only[h1] at hA;by_cases h2:Zkk r0 r1 r2 r3 S=0
  ·obtain⟨hc,Mb⟩:=Zkp h1;have hg:=Zkn hc h2;have ha:=Z0N Mb;simp only[h2] at hB;rw[Zw,B5,h2,if_pos rfl,hg.mark_span ha,A0];have hp:=hg.pos;have hC:=fun W (hW:Ext w W)=>Zkl r0 r1 r2 r3 a base n cap S W A0 hn (by omega) (hS.ext hW)
   generalize (Z57 r0 r1 r2 r3 S a (upL n)).1=xa at hC⊢;generalize (Z57 r0 r1 r2 r3 S a (upL n)).2=xb at hC⊢;clear h1 h2 B5 hg hp;go_enter func77,ntmps77
   go_wp2_with (first
    |(go_at_call 131;refine(hA _ Au).mono ?_;rintro e w2 ⟨rfl,hF⟩
      have hE:=Au.trans hF;have hr:=hF.get Bz;have hz:=hF.get Gi;clear hF;obtain⟨q0,q1,q2,q3,q4⟩:=ZgE hr)
    |(go_at_call 132;refine(hB _ hE).mono ?_;rintro e w3 ⟨rfl,hF⟩
      replace hE:=hE.trans hF;replace hr:=hF.get hr;replace hz:=hF.get hz;clear hF q0 q1 q2 q3 q4;obtain⟨q0,q1,q2,q3,q4⟩:=ZgE hr)
    |(go_at_call 133;refine(hC _ hE).mono ?_;rintro e w4 ⟨rfl,hF⟩
      replace hE:=hE.trans hF;replace hz:=hF.get hz;clear hF q0 q1 q2 q3 q4 hr;have p:=Zc hz;have p0:=p.1;have p1:=p.2.1;have p2:=p.2.2.1;have p3:=p.2.2.2;clear p))
   have hh:=Zc (set_pair hz (.int .i64 xa) (.int .i64 xb));have Dj:=hh.1;have Dp:=hh.2.1;refine bodyPost_ret (v:= .tuple #[.agg #[.int .i64 xa,.int .i64 xb],.int .i64 0]) ((Z01 rfl _ _ _).trans ?_) rfl ⟨rfl,(hE.setCell _ _ (by simp)).setCell _ _ (by simp)⟩;simp[go_sem,Dj,Dp]
  ·have A7:(Zkk r0 r1 r2 r3 S !=0)=true:=by simpa using h2
   rw[Zw,B5,if_neg h2];generalize Zkk r0 r1 r2 r3 S=f at hB A7⊢;clear h1 h2 B5;go_enter func77,ntmps77
   go_wp2_with (first
    |(go_at_call 131;refine(hA _ Au).mono ?_;rintro e w2 ⟨rfl,hF⟩
      have hE:=Au.trans hF;have hr:=hF.get Bz;have hz:=hF.get Gi;clear hF;obtain⟨q0,q1,q2,q3,q4⟩:=ZgE hr)
    |(go_at_call 132;refine(hB _ hE).mono ?_;rintro e w3 ⟨rfl,hF⟩
      replace hE:=hE.trans hF;replace hz:=hF.get hz;clear hF q0 q1 q2 q3 q4 hr;have p:=Zc hz;have p0:=p.1;have p1:=p.2.1;have p2:=p.2.2.1;have p3:=p.2.2.2;clear p))
   have hh:=Zc (set_pair hz (.int .i64 0) (.int .i64 0));have Dj:=hh.1;have Dp:=hh.2.1;refine bodyPost_ret (v:= .tuple #[.agg #[.int .i64 0,.int .i64 0],.int .i64 f]) ((Z01 rfl _ _ _).trans ?_) rfl ⟨rfl,(hE.setCell _ _ (by simp)).setCell _ _ (by simp)⟩;simp[go_sem,Dj,Dp]
 ·rw[if_neg h1] at B5;have A7:(ZT r0 r1 r2 r3 S a !=0)=true:=by simpa using h1
  rw[Zw,B5,if_neg h1];generalize ZT r0 r1 r2 r3 S a=f at hA A7⊢;clear h1 B5 hB;go_enter func77,ntmps77
  go_wp2_with (first
   |(go_at_call 131;refine(hA _ Au).mono ?_;rintro e w2 ⟨rfl,hF⟩
     have hE:=Au.trans hF;have hz:=hF.get Gi;clear hF;have p:=Zc hz;have p0:=p.1;have p1:=p.2.1;have p2:=p.2.2.1;have p3:=p.2.2.2;clear p))
  have hh:=Zc (set_pair hz (.int .i64 0) (.int .i64 0));have Dj:=hh.1;have Dp:=hh.2.1;refine bodyPost_ret (v:= .tuple #[.agg #[.int .i64 0,.int .i64 0],.int .i64 f]) ((Z01 rfl _ _ _).trans ?_) rfl ⟨rfl,(hE.setCell _ _ (by simp)).setCell _ _ (by simp)⟩;simp[go_sem,Dj,Dp]
set_option linter.all false
theorem ZkE(r0 r1 r2 r3 a:Int)(base:Option Addr)(n cap:Nat)(S:List Rs)(w:World)(A0:S.length=n)(hn:n<=20)(hS:RawS w base S):
 Calls prog 79 #[.agg #[.int .i64 r0,.int .i64 r1,.int .i64 r2,.int .i64 r3,.slice base n cap],.int .i64 a] w fun e w'=>e= .returned (.tuple #[.int .i64 (bestR r0 r1 r2 r3 S a).1,.int .i64 (bestR r0 r1 r2 r3 S a).2,.int .i64 (markF r0 r1 r2 r3 S a)])/\Ext w w':=by
 have hA:=fun W (hW:Ext w W)=>Zkm r0 r1 r2 r3 a base n cap S W A0 (hS.ext hW)
 have hB:=fun W (hW:Ext w W)=>Zko r0 r1 r2 r3 base n cap S W A0 hn (hS.ext hW)
 have B5:=ZkD r0 r1 r2 r3 a S;have Au:=(Ext.rfl' w).alloc (.cells #[.int .i64 r0,.int .i64 r1,.int .i64 r2,.int .i64 r3,.slice base n cap] 70);have Bz:(w.alloc (.cells #[.int .i64 r0,.int .i64 r1,.int .i64 r2,.int .i64 r3,.slice base n cap] 70)).heap[w.heap.size]? =some (.cells #[.int .i64 r0,.int .i64 r1,.int .i64 r2,.int .i64 r3,.slice base n cap] 70):=(Z3 _ _ _).trans (if_pos rfl);by_cases h1:ZT r0 r1 r2 r3 S a=0
 ·rw[if_pos h1] at B5;simp only[h1] at hA;by_cases h2:Zkk r0 r1 r2 r3 S=0
  ·obtain⟨hc,Mb⟩:=Zkp h1;have hg:=Zkn hc h2;have ha:=Z0N Mb;simp only[h2] at hB;have hp:=hg.pos;have i1:=hg.inB ha;have i2:=hg.le ha;have hC:=fun W (hW:Ext w W)=>Zkl r0 r1 r2 r3 a base n cap S W A0 hn (by omega) (hS.ext hW)
   rw[hg.bestR ha,B5,h2];rw[hg.mark_span ha,A0] at i1 i2⊢;simp only;generalize (Z57 r0 r1 r2 r3 S a (upL n)).1=xa at hC i1 i2⊢;generalize (Z57 r0 r1 r2 r3 S a (upL n)).2=xb at hC i1 i2⊢;obtain⟨i1,i3⟩:=i1;obtain⟨h,hh⟩:∃h,h=(xb - xa) / 2:=⟨_,rfl⟩;have hdv:Int.tdiv (xb - xa) 2=h:=by rw[Int.tdiv_eq_ediv_of_nonneg (by omega),hh]
   have I8:xb - (xb - xa+1) / 2=xa+h:=by omega
   have Jr:(xb - xa+1) / 2=xb - (xa+h):=by omega
   have hh2:0<=h/\h<=2000000:=by omega
   replace I8:Hid (xb - (xb - xa+1) / 2=xa+h):=I8;replace Jr:Hid ((xb - xa+1) / 2=xb - (xa+h)):=Jr;clear h1 h2 B5 hg hp hh;rw[I8.out,Jr.out];go_enter func79,ntmps79
   go_wp2_with (first
   |(go_at_call 131;refine(hA _ Au).mono ?_;rintro e w2 ⟨rfl,hF⟩
     have hE:=Au.trans hF;have hr:=hF.get Bz;clear hF;obtain⟨q0,q1,q2,q3,q4⟩:=ZgE hr)
   |(go_at_call 132;refine(hB _ hE).mono ?_;rintro e w3 ⟨rfl,hF⟩
     replace hE:=hE.trans hF;replace hr:=hF.get hr;clear hF q0 q1 q2 q3 q4;obtain⟨q0,q1,q2,q3,q4⟩:=ZgE hr)
   |(go_at_call 133;refine(hC _ hE).mono ?_;rintro e w4 ⟨rfl,hF⟩
     replace hE:=(hE.trans hF).alloc (.cells #[.int .i64 xa,.int .i64 xb] 48);have hx:=(Z3 w4 (.cells #[.int .i64 xa,.int .i64 xb] 48) w4.heap.size).trans (if_pos rfl);clear hF q0 q1 q2 q3 q4 hr;have p:=Zc hx;have p0:=p.1;have p1:=p.2.1;clear p))
   have g0:=Zet p0;have g1:=Zet p1;refine ZeG 8 (by kernel_rfl) ?_;refine ZeB [0,1,2,3,4,5,6,7] (by kernel_rfl) (by kernel_rfl) ?_;simp only[ZeD,List.getElem?_cons_succ,List.getElem?_cons_zero,List.cons_append,List.nil_append]
   repeat (go_big_quiet_step (fail))
   refine wpQuiet_nil ?_;refine Zf6 (by kernel_rfl) (fun W hW=> ?_);replace hE:=hE.trans hW;clear g0 g1 p0 p1 hW hx;go_wp2;go_ret3;exact⟨rfl,hE⟩
  ·have A7:(Zkk r0 r1 r2 r3 S !=0)=true:=by simpa using h2
   have Dc:bestR r0 r1 r2 r3 S a=(0,0):=by rw[bestR,B5,if_neg h2]
   rw[Dc,B5];generalize Zkk r0 r1 r2 r3 S=f at hB A7⊢;clear h1 h2 B5 Dc;go_enter func79,ntmps79
   go_wp2_with (first
   |(go_at_call 131;refine(hA _ Au).mono ?_;rintro e w2 ⟨rfl,hF⟩
     have hE:=Au.trans hF;have hr:=hF.get Bz;clear hF;obtain⟨q0,q1,q2,q3,q4⟩:=ZgE hr)
   |(go_at_call 132;refine(hB _ hE).mono ?_;rintro e w3 ⟨rfl,hF⟩
     replace hE:=hE.trans hF;replace hr:=hF.get hr;clear hF q0 q1 q2 q3 q4;obtain⟨q0,q1,q2,q3,q4⟩:=ZgE hr))
   go_ret3;exact⟨rfl,hE⟩
 ·rw[if_neg h1] at B5;have A7:(ZT r0 r1 r2 r3 S a !=0)=true:=by simpa using h1
  have Dc:bestR r0 r1 r2 r3 S a=(0,0):=by rw[bestR,B5,if_neg h1]
  rw[Dc,B5];generalize ZT r0 r1 r2 r3 S a=f at hA A7⊢;clear h1 B5 hB Dc;go_enter func79,ntmps79
  go_wp2_with (first
   |(go_at_call 131;refine(hA _ Au).mono ?_;rintro e w2 ⟨rfl,hF⟩
     have hE:=Au.trans hF))
  go_ret3;exact⟨rfl,hE⟩
set_option linter.all false
theorem ZkH(r0 r1 r2 r3 a m k:Int)(S:List Rs):Z8F r0 r1 r2 r3 S a m k=if ZT r0 r1 r2 r3 S a=0 then(if Z87 m k=0 then Zkk r0 r1 r2 r3 S else Z87 m k) else ZT r0 r1 r2 r3 S a:=by
 rw[Z8F,ZkC,ZT];have e:firstV [Zv a,Z87 m k]=if Zv a=0 then Z87 m k else Zv a:=by
  rw[firstV,firstV];split
  ·split
   ·rename_i h;rw[h];rfl
   ·rfl
  ·rfl
 rw[e];by_cases hc:ZC r0 r1 r2 r3 S=0
 ·rw[if_pos hc,if_pos hc];by_cases hf:Zv a=0
  ·rw[if_pos hf,if_pos hf]
  ·rw[if_neg hf,if_neg hf,if_neg hf]
 ·rw[if_neg hc,if_neg hc,if_neg hc]
theorem ZkF(r0 r1 r2 r3 a m k:Int)(base:Option Addr)(n cap:Nat)(S:List Rs)(w:World)(A0:S.length=n)(hn:n<=20)(hS:RawS w base S):
 Calls prog 78 #[.agg #[.int .i64 r0,.int .i64 r1,.int .i64 r2,.int .i64 r3,.slice base n cap],.int .i64 a,.int .i64 m,.int .i64 k] w fun e w'=>e= .returned (.tuple #[.int .i64 (Z6c r0 r1 r2 r3 S a m k),.int .i64 (Z8F r0 r1 r2 r3 S a m k)])/\Ext w w':=by
 have hA:=fun W (hW:Ext w W)=>Zkm r0 r1 r2 r3 a base n cap S W A0 (hS.ext hW)
 have hB:=fun W (hW:Ext w W)=>Zko r0 r1 r2 r3 base n cap S W A0 hn (hS.ext hW)
 have Bi:=fun W=>Z4r m (-99999) 99999 W
 have E9:=fun W=>Z4r k 0 99999 W
 have B5:=ZkH r0 r1 r2 r3 a m k S;have Au:=(Ext.rfl' w).alloc (.cells #[.int .i64 r0,.int .i64 r1,.int .i64 r2,.int .i64 r3,.slice base n cap] 70);have Bz:(w.alloc (.cells #[.int .i64 r0,.int .i64 r1,.int .i64 r2,.int .i64 r3,.slice base n cap] 70)).heap[w.heap.size]? =some (.cells #[.int .i64 r0,.int .i64 r1,.int .i64 r2,.int .i64 r3,.slice base n cap] 70):=(Z3 _ _ _).trans (if_pos rfl);by_cases h1:ZT r0 r1 r2 r3 S a=0
 ·rw[if_pos h1] at B5;simp only[h1] at hA;by_cases h3: -99999<=m/\m<=99999/\0<=k/\k<=99999
  ·have Dj:Z87 m k=0:=if_pos h3;rw[if_pos Dj] at B5;rw[decide_eq_true ⟨h3.1,h3.2.1⟩] at Bi;rw[decide_eq_true h3.2.2] at E9;obtain⟨m1,m2,k1,k2⟩:=h3;by_cases h2:Zkk r0 r1 r2 r3 S=0
   ·obtain⟨hc,Mb⟩:=Zkp h1;have hg:=Zkn hc h2;have ha:=Z0N Mb;simp only[h2] at hB;have hp:=hg.pos;have i1:=hg.inB ha;have i2:=hg.le ha;have hC:=fun W (hW:Ext w W)=>Zkl r0 r1 r2 r3 a base n cap S W A0 hn (by omega) (hS.ext hW)
    rw[Z6c,B5,if_pos h2,h2,hitV,Z6a (m - k) (by omega),Z6a (m+k) (by omega)];rw[hg.mark_span ha,A0] at i1 i2⊢;generalize (Z57 r0 r1 r2 r3 S a (upL n)).1=xa at hC i1 i2⊢;generalize (Z57 r0 r1 r2 r3 S a (upL n)).2=xb at hC i1 i2⊢;obtain⟨i1,i3⟩:=i1;obtain⟨hv,T9⟩:∃hv:Int,(if max xa (m - k)=xa/\min xb (m+k)=xb then 1 else if min xb (m+k)<max xa (m - k) then 2 else 0)=hv:=⟨_,rfl⟩;have c1:m - k<=xa->xb<=m+k->hv=1:=fun u v=>by rw[<-T9,if_pos (by omega)]
    have c2:¬(m - k<=xa/\xb<=m+k)->(xb<m - k\/m+k<xa)->hv=2:=fun u v=>by rw[<-T9,if_neg (by omega),if_pos (by omega)]
    have c3:¬(m - k<=xa/\xb<=m+k)->¬(xb<m - k\/m+k<xa)->hv=0:=fun u v=>by rw[<-T9,if_neg (by omega),if_neg (by omega)]
    rw[T9];replace c1:Hid (m - k<=xa->xb<=m+k->hv=1):=c1;replace c2:Hid (¬(m - k<=xa/\xb<=m+k)->(xb<m - k\/m+k<xa)->hv=2):=c2;replace c3:Hid (¬(m - k<=xa/\xb<=m+k)->¬(xb<m - k\/m+k<xa)->hv=0):=c3;clear h1 h2 B5 hg hp T9 Dj;go_enter func78,ntmps78
    go_wp2_with (first
   |(go_at_call 131;refine(hA _ Au).mono ?_;rintro e w2 ⟨rfl,hF⟩
     have hE:=Au.trans hF;have hr:=hF.get Bz;clear hF;obtain⟨q0,q1,q2,q3,q4⟩:=ZgE hr)
   |(go_at_call 93;(with_reducible refine(Bi _).mono ?_);rintro e w5 ⟨rfl,rfl⟩)
   |(go_at_call 93;(with_reducible refine(E9 _).mono ?_);rintro e w5 ⟨rfl,rfl⟩)
   |(go_at_call 132;refine(hB _ hE).mono ?_;rintro e w3 ⟨rfl,hF⟩
     replace hE:=hE.trans hF;replace hr:=hF.get hr;clear hF q0 q1 q2 q3 q4;obtain⟨q0,q1,q2,q3,q4⟩:=ZgE hr)
   |(go_at_call 133;refine(hC _ hE).mono ?_;rintro e w4 ⟨rfl,hF⟩
     replace hE:=(hE.trans hF).alloc (.cells #[.int .i64 xa,.int .i64 xb] 48);have hx:=(Z3 w4 (.cells #[.int .i64 xa,.int .i64 xb] 48) w4.heap.size).trans (if_pos rfl);clear hF q0 q1 q2 q3 q4 hr;have p:=Zc hx;have p0:=p.1;have p1:=p.2.1;clear p))
    all_goals
     go_ret2;refine⟨?_,hE⟩
     first
      |(rw[c1.out (by omega) (by omega)];rfl)
      |(rw[c2.out (by omega) (by omega)];rfl)
      |(rw[c3.out (by omega) (by omega)];rfl)
   ·have A7:(Zkk r0 r1 r2 r3 S !=0)=true:=(by simpa using h2);have Dc:Z6c r0 r1 r2 r3 S a m k=0:=(by rw[Z6c,B5,if_neg h2]);rw[Dc,B5];generalize Zkk r0 r1 r2 r3 S=f at hB A7⊢;clear h1 h2 B5 Dc Dj;go_enter func78,ntmps78
    go_wp2_with (first
   |(go_at_call 131;refine(hA _ Au).mono ?_;rintro e w2 ⟨rfl,hF⟩
     have hE:=Au.trans hF;have hr:=hF.get Bz;clear hF;obtain⟨q0,q1,q2,q3,q4⟩:=ZgE hr)
   |(go_at_call 93;(with_reducible refine(Bi _).mono ?_);rintro e w5 ⟨rfl,rfl⟩)
   |(go_at_call 93;(with_reducible refine(E9 _).mono ?_);rintro e w5 ⟨rfl,rfl⟩)
   |(go_at_call 132;refine(hB _ hE).mono ?_;rintro e w3 ⟨rfl,hF⟩
     replace hE:=hE.trans hF;replace hr:=hF.get hr;clear hF q0 q1 q2 q3 q4;obtain⟨q0,q1,q2,q3,q4⟩:=ZgE hr))
    go_ret2;exact⟨rfl,hE⟩
  ·have Dp:Z87 m k=1:=if_neg h3;rw[Dp,if_neg (by decide)] at B5;have Dc:Z6c r0 r1 r2 r3 S a m k=0:=by rw[Z6c,B5];rfl
   rw[Dc,B5];clear h1 B5 Dc Dp hB;by_cases h4: -99999<=m/\m<=99999
   ·rw[decide_eq_true h4] at Bi;rw[decide_eq_false (fun h=>h3 ⟨h4.1,h4.2,h.1,h.2⟩)] at E9;clear h3 h4;go_enter func78,ntmps78
    go_wp2_with (first
   |(go_at_call 131;refine(hA _ Au).mono ?_;rintro e w2 ⟨rfl,hF⟩
     have hE:=Au.trans hF;have hr:=hF.get Bz;clear hF;obtain⟨q0,q1,q2,q3,q4⟩:=ZgE hr)
   |(go_at_call 93;(with_reducible refine(Bi _).mono ?_);rintro e w5 ⟨rfl,rfl⟩)
   |(go_at_call 93;(with_reducible refine(E9 _).mono ?_);rintro e w5 ⟨rfl,rfl⟩))
    go_ret2;exact⟨rfl,hE⟩
   ·rw[decide_eq_false h4] at Bi;clear h3 h4 E9;go_enter func78,ntmps78
    go_wp2_with (first
   |(go_at_call 131;refine(hA _ Au).mono ?_;rintro e w2 ⟨rfl,hF⟩
     have hE:=Au.trans hF;have hr:=hF.get Bz;clear hF;obtain⟨q0,q1,q2,q3,q4⟩:=ZgE hr)
   |(go_at_call 93;(with_reducible refine(Bi _).mono ?_);rintro e w5 ⟨rfl,rfl⟩))
    go_ret2;exact⟨rfl,hE⟩
 ·rw[if_neg h1] at B5;have A7:(ZT r0 r1 r2 r3 S a !=0)=true:=by simpa using h1
  have Dc:Z6c r0 r1 r2 r3 S a m k=0:=by rw[Z6c,B5,if_neg h1]
  rw[Dc,B5];generalize ZT r0 r1 r2 r3 S a=f at hA A7⊢;clear h1 B5 hB Dc Bi E9;go_enter func78,ntmps78
  go_wp2_with (first
   |(go_at_call 131;refine(hA _ Au).mono ?_;rintro e w2 ⟨rfl,hF⟩
     have hE:=Au.trans hF;have hr:=hF.get Bz;clear hF;obtain⟨q0,q1,q2,q3,q4⟩:=ZgE hr))
  go_ret2;exact⟨rfl,hE⟩
end Go.Proofs.Tryq
