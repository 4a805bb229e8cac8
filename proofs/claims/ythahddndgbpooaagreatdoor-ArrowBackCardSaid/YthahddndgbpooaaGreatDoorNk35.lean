import Derived.Test.YthahddndgbpooaaGreatDoorNkA
import Derived.Test.YthahddndgbpooaaGreatDoorNk34
import Derived.LaidLaws
import Derived.Lib.LaidTab
set_option linter.all false
set_option maxRecDepth 100000
set_option maxHeartbeats 8000000
open Go Go.Nk Go.RowKit
variable {C:Array Value}{x0 x1 x2 y0 y1 y2:Int}{x:List UInt8}{v:Value}
namespace Go.Proofs.Tryq
theorem u68:prog.underlying 29=some (.slice 75):=(underlying_eq 29).trans Tryz.underlying29
theorem i80:prog.info? 75=some Tryz.t75:=by kernel_rfl
theorem t80z:Tryz.t75.zero=some (.agg #[.int .i64 0,.int .i64 0,.int .i64 0,.int .i64 0,.int .i64 0]):=by kernel_rfl
theorem t80s:Tryz.t75.size=5:=by kernel_rfl
theorem t80b:Tryz.t75.bytes=40:=by kernel_rfl
theorem ZaN{w:World}{b:Nat}{A:List Ap}(h:w.heap[b]? =some (.cells C 81))(hC:C.toList=A.flatMap apC):RawAp w (some ⟨b,0,none⟩) A:=by
 have key:∀(A:List Ap)(i j:Nat)(x:Ap),A[i]? =some x->j<4->(A.flatMap apC)[i*4+j]? =(apC x)[j]? :=by
  intro A
  induction A with
  |nil=>intro i j x h;simp at h
  |cons y A ih=>
   intro i j x hx hj;rw[UE];have hl:(apC y).length=4:=rfl;cases i with
   |zero=>
    simp at hx;subst hx;rw[List.getElem?_append_left (by omega)];simp
   |succ i=>
    rw[List.getElem?_append_right (by omega),hl,show(i+1)*4+j - 4=i*4+j by omega];exact ih i j x (by simpa using hx) hj
 intro i x hx;have hc:∀j,j<4->w.cell? ⟨b,0+i*4+j,none⟩=(apC x)[j]? :=by
  intro j hj;rw[Z0 h,UA,<-Array.getElem?_toList,hC,key A i j x hx hj]
 exact⟨b,0,rfl,Z5 h,hc 0 (by omega),hc 1 (by omega),hc 2 (by omega),hc 3 (by omega)⟩
theorem Zcc{w:World}{b:Nat}(h0:w.heap[b]? =some (.cells #[x0,x1,x2] 3))(h1:w.heap[b+1]? =some (.cells #[y0,y1,y2] 3))
 (h2:w.heap[b+1+1]? =some (.cells #[.slice (some ⟨b,0,none⟩) 3 3,.slice (some ⟨b+1,0,none⟩) 3 3] 57)):RawL w (some ⟨b+1+1,0,none⟩) [[x0,x1,x2],[y0,y1,y2]]:=by
 intro i l hl
 match i,hl with
 |0,hl=>
  obtain rfl:=YT hl;exact⟨b+1+1,0,_,3,rfl,Z5 h2,by rw[Z0 h2];rfl,by simp,Z0V h0 rfl⟩
 |1,hl=>
  obtain rfl:=YT hl;exact⟨b+1+1,0,_,3,rfl,Z5 h2,by rw[Z0 h2];rfl,by simp,Z0V h1 rfl⟩
theorem Zcd{w:World}{b base:Nat}(h:w.heap[b]? =some (.cells #[] 75))(hb:base<=b):w.ownsRow base 75 5 (.slice (some ⟨b,0,none⟩) 0 0) 0 []:=⟨rfl,.inr ⟨b,0,#[],rfl,hb,h,XB _,by simp[maxLen],rfl,rfl⟩⟩
theorem OwnAp.rawAp{b:Nat}{w:World}{A:List Ap}(h:OwnAp b w v A):∃ao cp,v= .slice ao A.length cp/\RawAp w ao A:=by
 by_cases h0:A=[]
 ·subst h0;rcases h.2 with⟨rfl,_⟩|⟨g,cp,_,rfl,_⟩
  ·exact⟨none,0,rfl,λi x hx=>by simp at hx⟩
  ·exact⟨_,cp,rfl,λi x hx=>by simp at hx⟩
 ·have hp:0<A.length:=List.length_pos_iff.2 h0;obtain⟨g,cp,rfl,_,hg⟩:=XP h hp;refine⟨_,cp,rfl,λi x hx=> ?_⟩;have key:∀(A:List Ap)(i j:Nat)(x:Ap),A[i]? =some x->j<4->(A.flatMap apC)[i*4+j]? =(apC x)[j]? :=by
   intro A
   induction A with
   |nil=>intro i j x h;simp at h
   |cons y A ih=>
    intro i j x hx hj;rw[UE];have hl:(apC y).length=4:=rfl;cases i with
    |zero=>
     simp at hx;subst hx;rw[List.getElem?_append_left (by omega)];simp
    |succ i=>
     rw[List.getElem?_append_right (by omega),hl,show(i+1)*4+j - 4=i*4+j by omega];exact ih i j x (by simpa using hx) hj
  have hc:∀j u,j<4->(apC x)[j]? =some u->w.cell? ⟨g,0+i*4+j,none⟩=some u:=by
   intro j u hj hu;have h2:=h.cells (g:=g) rfl (i*4+j) u (by rw[key A i j x hx hj];exact hu);rw[Z0c] at h2;rw[UA];exact h2
  exact⟨g,0,rfl,hg,hc 0 _ (by omega) rfl,hc 1 _ (by omega) rfl,hc 2 _ (by omega) rfl,hc 3 _ (by omega) rfl⟩
theorem Zce(w:World)(hM:Meas w)(Eb:Most w)(hd:Deb w):Calls prog 6 #[] w λe w'=>e= .returned (.bool true)/\Ext w w':=by
 go_enter fk Tryz.func6,Tryz.ntmps6;go_wp2_with fail;refine(Z6U _).mono ?_;rintro e wA ⟨B,rfl,hBe,hEA⟩;rename_i Q K hK;refine hK _ _ ?_;clear hK;go_wp2_with fail;refine(Zar _).mono ?_;rintro e w0 ⟨D,rfl,Ue,hEB⟩;have Gn:=hEA.trans hEB;have Jj:=ZdF (hEB.get hBe);have Pa:RawS w0 (some ⟨D,0,none⟩) exS:=Z6Y Ue rfl;have Qr:=hM.ext Gn;have C3:=Eb.ext Gn;have Ww:=hd.ext Gn;have Cq:=Ext.rfl' w0;rename_i Q K hK;refine hK _ _ ?_;clear hK;go_wp2_with fail;refine(Z59 [0,1,2] 3 1 rfl (by decide) v_m1 B _ _ (Qr.ext ((((Cq.alloc _).alloc _).alloc _))) (Jj.ext ((((Cq.alloc _).alloc _).alloc _))) (Z0V (l:=[0,1,2]) (by simp only[Z3,Z2];exact YZ trivial) rfl)).mono ?_;rintro e w1 ⟨rfl,hE⟩;have Dh:Ext w0 w1:=((((Ext.rfl' w0).alloc _).alloc _).alloc _).trans hE;have gs1:w1.heap[w0.heap.size]? =some (.cells #[.int .i64 10,.int .i64 2,.int .i64 5,.int .i64 3,.slice (some ⟨B,0,none⟩) 7 7] 26):=hE.get (by simp only[Z3,Z2];rw[XA (by omega),XA (by omega),YZ trivial]);have gc1:w1.heap[w0.heap.size+1]? =some (.cells #[.int .i64 2,.int .i64 4,.int .i64 1,.int .i64 2,.slice (some ⟨D,0,none⟩) 3 3] 31):=hE.get (by simp only[Z3,Z2];rw[XA (by omega),YZ trivial]);have Ew:=Cq.trans Dh
 clear hE;have hlt1:=Z5 gc1;have hlu1:=Z5 gs1;have q0:=Z0 gs1 0;have q1:=Z0 gs1 1;have q2:=Z0 gs1 2;have q3:=Z0 gs1 3;have q4:=Z0 gs1 4;have r0:=Z0 gc1 0;have r1:=Z0 gc1 1;have r2:=Z0 gc1 2;have r3:=Z0 gc1 3;have r4:=Z0 gc1 4;simp only[YC,YA,YB] at q0 r0 q1 r1 q2 r2 q3 r3 q4 r4;rename_i Q K hK;refine hK _ _ ?_;clear hK;go_wp2_with fail;refine(Z59 [0,3] 2 0 rfl (by decide) v_m2 B _ _ (Qr.ext ((Ew.alloc _))) (Jj.ext ((Ew.alloc _))) (Z0V (l:=[0,3]) (by simp only[Z3,Z2];exact YZ trivial) rfl)).mono ?_;rintro e w2 ⟨rfl,hE⟩;have Cn:Ext w1 w2:=((Ext.rfl' w1).alloc _).trans hE;have gs2:=Cn.get gs1;have gc2:=Cn.get gc1;have E3:=Ew.trans Cn;clear hE;have E6:=Z5 gc2;have hlu2:=Z5 gs2;clear hlt1 hlu1;clear q0 r0 q1 r1 q2 r2 q3 r3 q4 r4;have q0:=Z0 gs2 0;have q1:=Z0 gs2 1;have q2:=Z0 gs2 2;have q3:=Z0 gs2 3;have q4:=Z0 gs2 4;have r0:=Z0 gc2 0;have r1:=Z0 gc2 1;have r2:=Z0 gc2 2;have r3:=Z0 gc2 3;have r4:=Z0 gc2 4;simp only[YC,YA,YB] at q0 r0 q1 r1 q2 r2 q3 r3 q4 r4;rename_i Q K hK;refine hK _ _ ?_;clear hK;go_wp2_with fail;refine(Z59 [0,6] 2 2 rfl (by decide) v_m3 B _ _ (Qr.ext ((E3.alloc _))) (Jj.ext ((E3.alloc _))) (Z0V (l:=[0,6]) (by simp only[Z3,Z2];exact YZ trivial) rfl)).mono ?_
 rintro e w3 ⟨rfl,hE⟩;have Cg:Ext w2 w3:=((Ext.rfl' w2).alloc _).trans hE;have gs3:=Cg.get gs2;have gc3:=Cg.get gc2;have Ij:=E3.trans Cg;clear hE;have Sm:=Z5 gc3;have hlu3:=Z5 gs3;clear E6 hlu2;clear q0 r0 q1 r1 q2 r2 q3 r3 q4 r4;have q0:=Z0 gs3 0;have q1:=Z0 gs3 1;have q2:=Z0 gs3 2;have q3:=Z0 gs3 3;have q4:=Z0 gs3 4;have r0:=Z0 gc3 0;have r1:=Z0 gc3 1;have r2:=Z0 gc3 2;have r3:=Z0 gc3 3;have r4:=Z0 gc3 4;simp only[YC,YA,YB] at q0 r0 q1 r1 q2 r2 q3 r3 q4 r4;rename_i Q K hK;refine hK _ _ ?_;clear hK;go_wp2_with fail;refine(Zc9 B _ _ (Qr.ext ((Ij.alloc _))) (Jj.ext ((Ij.alloc _))) (Z0V (l:=[0,2,3]) (by simp only[Z3,Z2];exact YZ trivial) rfl)).mono ?_;rintro e w4 ⟨v9,rfl,hv9,hE⟩;have F6:Ext w3 w4:=((Ext.rfl' w3).alloc _).trans hE;have gs4:=F6.get gs3;have gc4:=F6.get gc3;have Wf:=Ij.trans F6;obtain⟨a9,c9,rfl,T9⟩:=hv9.rawAp;rw[v_ap.2.2];clear hE;have hlt4:=Z5 gc4;have hlu4:=Z5 gs4;clear Sm hlu3;clear q0 r0 q1 r1 q2 r2 q3 r3 q4 r4;have q0:=Z0 gs4 0;have q1:=Z0 gs4 1;have q2:=Z0 gs4 2;have q3:=Z0 gs4 3;have q4:=Z0 gs4 4;have r0:=Z0 gc4 0;have r1:=Z0 gc4 1;have r2:=Z0 gc4 2;have r3:=Z0 gc4 3;have r4:=Z0 gc4 4
 simp only[YC,YA,YB] at q0 r0 q1 r1 q2 r2 q3 r3 q4 r4;rename_i Q K hK;refine hK _ _ ?_;clear hK;go_wp2_with fail;refine(ZdC B _ (Qr.ext Wf) (Jj.ext Wf)).mono ?_;rintro e w5 ⟨v11,v12,rfl,hv11,hv12,hE⟩;have Py:Ext w4 w5:=hE;have gs5:=Py.get gs4;have gc5:=Py.get gc4;have Qe:=Wf.trans Py;obtain⟨a11,c11,rfl,hr11⟩:=hv11.rawL (by decide);obtain⟨a12,c12,rfl,hr12,hx12⟩:=hv12.rawI;clear hx12;clear hE;have hlt5:=Z5 gc5;have hlu5:=Z5 gs5;clear hlt4 hlu4;clear q0 r0 q1 r1 q2 r2 q3 r3 q4 r4;have q0:=Z0 gs5 0;have q1:=Z0 gs5 1;have q2:=Z0 gs5 2;have q3:=Z0 gs5 3;have q4:=Z0 gs5 4;have r0:=Z0 gc5 0;have r1:=Z0 gc5 1;have r2:=Z0 gc5 2;have r3:=Z0 gc5 3;have r4:=Z0 gc5 4;simp only[YC,YA,YB] at q0 r0 q1 r1 q2 r2 q3 r3 q4 r4;rename_i Q K hK;refine hK _ _ ?_;clear hK;go_wp2_with fail;refine(Z8I B _ (Qr.ext Qe) (Jj.ext Qe)).mono ?_;rintro e w6 ⟨rfl,hE⟩;have D9:Ext w5 w6:=hE;have gs6:=D9.get gs5;have gc6:=D9.get gc5;have hc6:=Qe.trans D9;clear hE;have hlt6:=Z5 gc6;have hlu6:=Z5 gs6;clear hlt5 hlu5;clear q0 r0 q1 r1 q2 r2 q3 r3 q4 r4;have q0:=Z0 gs6 0;have q1:=Z0 gs6 1;have q2:=Z0 gs6 2;have q3:=Z0 gs6 3;have q4:=Z0 gs6 4
 have r0:=Z0 gc6 0;have r1:=Z0 gc6 1;have r2:=Z0 gc6 2;have r3:=Z0 gc6 3;have r4:=Z0 gc6 4;simp only[YC,YA,YB] at q0 r0 q1 r1 q2 r2 q3 r3 q4 r4;rename_i Q K hK;refine hK _ _ ?_;clear hK;go_wp2_with fail;refine(ZdD D _ (Pa.ext hc6)).mono ?_;rintro e w7 ⟨rfl,hE⟩;have Ui:Ext w6 w7:=hE;have gs7:=Ui.get gs6;have gc7:=Ui.get gc6;have Wh:=hc6.trans Ui;clear hE;have hlt7:=Z5 gc7;have hlu7:=Z5 gs7;clear hlt6 hlu6;clear q0 r0 q1 r1 q2 r2 q3 r3 q4 r4;have q0:=Z0 gs7 0;have q1:=Z0 gs7 1;have q2:=Z0 gs7 2;have q3:=Z0 gs7 3;have q4:=Z0 gs7 4;have r0:=Z0 gc7 0;have r1:=Z0 gc7 1;have r2:=Z0 gc7 2;have r3:=Z0 gc7 3;have r4:=Z0 gc7 4;simp only[YC,YA,YB] at q0 r0 q1 r1 q2 r2 q3 r3 q4 r4;rename_i Q K hK;refine hK _ _ ?_;clear hK;go_wp2_with fail;refine(ZaK 30 93 100 rfl v_mk1 D _ (Pa.ext ((Wh.alloc _))) (C3.ext ((Wh.alloc _)))).mono ?_;rintro e w8 ⟨rfl,hE⟩;have Uj:Ext w7 w8:=((Ext.rfl' w7).alloc _).trans hE;have gs8:=Uj.get gs7;have gc8:=Uj.get gc7;have Wi:=Wh.trans Uj;have gp8:w8.heap[w7.heap.size]? =some (.cells #[.int .i64 93,.int .i64 102] 49):=hE.get (by simp only[Z3,Z2];exact YZ trivial)
 clear hE;have hlt8:=Z5 gc8;have hlu8:=Z5 gs8;clear hlt7 hlu7;clear q0 r0 q1 r1 q2 r2 q3 r3 q4 r4;have q0:=Z0 gs8 0;have q1:=Z0 gs8 1;have q2:=Z0 gs8 2;have q3:=Z0 gs8 3;have q4:=Z0 gs8 4;have r0:=Z0 gc8 0;have r1:=Z0 gc8 1;have r2:=Z0 gc8 2;have r3:=Z0 gc8 3;have r4:=Z0 gc8 4;simp only[YC,YA,YB] at q0 r0 q1 r1 q2 r2 q3 r3 q4 r4;rename_i Q K hK;refine hK _ _ ?_;clear hK;go_wp2_with fail;refine(ZaK 25 73 80 rfl v_mk2 D _ (Pa.ext ((Wi.alloc _))) (C3.ext ((Wi.alloc _)))).mono ?_;rintro e w9 ⟨rfl,hE⟩;have Fh:Ext w8 w9:=((Ext.rfl' w8).alloc _).trans hE;have gs9:=Fh.get gs8;have gc9:=Fh.get gc8;have Wj:=Wi.trans Fh;have gp9:w9.heap[w8.heap.size]? =some (.cells #[.int .i64 93,.int .i64 100] 49):=hE.get (by simp only[Z3,Z2];exact YZ trivial);clear hE;have hlt9:=Z5 gc9;have hlu9:=Z5 gs9;clear hlt8 hlu8;clear q0 r0 q1 r1 q2 r2 q3 r3 q4 r4;have q0:=Z0 gs9 0;have q1:=Z0 gs9 1;have q2:=Z0 gs9 2;have q3:=Z0 gs9 3;have q4:=Z0 gs9 4;have r0:=Z0 gc9 0;have r1:=Z0 gc9 1;have r2:=Z0 gc9 2;have r3:=Z0 gc9 3;have r4:=Z0 gc9 4;simp only[YC,YA,YB] at q0 r0 q1 r1 q2 r2 q3 r3 q4 r4
 rename_i Q K hK;refine hK _ _ ?_;clear hK;go_wp2_with fail;refine(ZaL 4 1 rfl v_h1 D _ (Pa.ext ((Wj.alloc _))) (C3.ext ((Wj.alloc _)))).mono ?_;rintro e w10 ⟨rfl,hE⟩;have K5:Ext w9 w10:=((Ext.rfl' w9).alloc _).trans hE;have gs10:=K5.get gs9;have gc10:=K5.get gc9;have M3:=Wj.trans K5;have gp10:w10.heap[w9.heap.size]? =some (.cells #[.int .i64 73,.int .i64 80] 49):=hE.get (by simp only[Z3,Z2];exact YZ trivial);clear hE;have Uk:=Z5 gc10;have Ul:=Z5 gs10;clear hlt9 hlu9;clear q0 r0 q1 r1 q2 r2 q3 r3 q4 r4;have q0:=Z0 gs10 0;have q1:=Z0 gs10 1;have q2:=Z0 gs10 2;have q3:=Z0 gs10 3;have q4:=Z0 gs10 4;have r0:=Z0 gc10 0;have r1:=Z0 gc10 1;have r2:=Z0 gc10 2;have r3:=Z0 gc10 3;have r4:=Z0 gc10 4;simp only[YC,YA,YB] at q0 r0 q1 r1 q2 r2 q3 r3 q4 r4;rename_i Q K hK;refine hK _ _ ?_;clear hK;go_wp2_with fail;refine(ZaL 3 0 rfl v_h2 D _ (Pa.ext M3) (C3.ext M3)).mono ?_;rintro e w11 ⟨rfl,hE⟩;have K6:Ext w10 w11:=hE;have gs11:=K6.get gs10;have gc11:=K6.get gc10;have M4:=M3.trans K6;clear hE;have Um:=Z5 gc11;have Un:=Z5 gs11;clear Uk Ul;clear q0 r0 q1 r1 q2 r2 q3 r3 q4 r4;have q0:=Z0 gs11 0;have q1:=Z0 gs11 1;have q2:=Z0 gs11 2;have q3:=Z0 gs11 3;have q4:=Z0 gs11 4
 have r0:=Z0 gc11 0;have r1:=Z0 gc11 1;have r2:=Z0 gc11 2;have r3:=Z0 gc11 3;have r4:=Z0 gc11 4;simp only[YC,YA,YB] at q0 r0 q1 r1 q2 r2 q3 r3 q4 r4;rename_i Q K hK;refine hK _ _ ?_;clear hK;go_wp2_with fail;refine(ZdE D _ (Pa.ext M4) (C3.ext M4)).mono ?_;rintro e w12 ⟨rfl,hE⟩;have K7:Ext w11 w12:=hE;have gs12:=K7.get gs11;have gc12:=K7.get gc11;have M5:=M4.trans K7;clear hE;have Uo:=Z5 gc12;have Up:=Z5 gs12;clear Um Un;clear q0 r0 q1 r1 q2 r2 q3 r3 q4 r4;have q0:=Z0 gs12 0;have q1:=Z0 gs12 1;have q2:=Z0 gs12 2;have q3:=Z0 gs12 3;have q4:=Z0 gs12 4;have r0:=Z0 gc12 0;have r1:=Z0 gc12 1;have r2:=Z0 gc12 2;have r3:=Z0 gc12 3;have r4:=Z0 gc12 4;simp only[YC,YA,YB] at q0 r0 q1 r1 q2 r2 q3 r3 q4 r4;rename_i Q K hK;refine hK _ _ ?_;clear hK;go_wp2_with fail;refine(ZaM D _ (Pa.ext M5) (C3.ext M5)).mono ?_;rintro e w13 ⟨rfl,hE⟩;have K8:Ext w12 w13:=hE;have gs13:=K8.get gs12;have gc13:=K8.get gc12;have Pb:=M5.trans K8;clear hE;have hlt13:=Z5 gc13;have hlu13:=Z5 gs13;clear Uo Up;clear q0 r0 q1 r1 q2 r2 q3 r3 q4 r4;have q0:=Z0 gs13 0;have q1:=Z0 gs13 1;have q2:=Z0 gs13 2;have q3:=Z0 gs13 3;have q4:=Z0 gs13 4
 have r0:=Z0 gc13 0;have r1:=Z0 gc13 1;have r2:=Z0 gc13 2;have r3:=Z0 gc13 3;have r4:=Z0 gc13 4;simp only[YC,YA,YB] at q0 r0 q1 r1 q2 r2 q3 r3 q4 r4;rename_i Q K hK;refine hK _ _ ?_;clear hK;have hsz13:=Pb.size;have hDW:∀W,Ext w13 W->∀(j:Nat) u,(exS.flatMap rsC)[j]? =some u->W.cell? ((⟨D,0,none⟩:Addr).add j)=some u:=by
  intro W hW j u hu;rw[Z0c,Z0 (hW.get (Pb.get Ue)),<-Array.getElem?_toList];exact hu
 go_wp2_with (
  at_builtin
  go_loud (refine UG _ rfl _ _ _ rfl (w13.heap.size+1+1) 75 Tryz.t75 (.agg #[.int .i64 0,.int .i64 0,.int .i64 0,.int .i64 0,.int .i64 0]) 5 40 u68 i80 t80z t80s t80b rfl (by omega) (.slice (some ⟨w13.heap.size+1+1,0,none⟩) 0 0) 0 [] rfl (Zcd (by simp only[Z3,Z2];exact YZ trivial) (XB _)) ⟨D,0,none⟩ 3 3 (exS.flatMap rsC) rfl rfl (hDW _ ((((Ext.rfl' w13).alloc _).alloc _).alloc _)) (by decide) (by simp[maxLen]) (by omega) (by simp only[Z2];omega) ?_)
  intro v' w14 K9 E0 _;obtain⟨g14,cp14,rfl,hg14,hg14'⟩:=XP K9 (by omega);have hE14:Ext w13 w14:=Ext.grown ((((Ext.rfl' w13).alloc _).alloc _).alloc _) E0 (λk hk=>by simp[Value.ownBlock] at hk<;>omega);have gp14:w14.heap[w13.heap.size]? =some (.cells #[.int .i64 38,.int .i64 48] 49):=Z0m E0 (λe=>by simp[Value.ownBlock] at e<;>omega) (by simp only[Z3,Z2];rw[XA (by omega),XA (by omega),YZ trivial]);have gk14:w14.heap[w13.heap.size+1]? =some (.cells #[.int .i64 2,.int .i64 4,.int .i64 1,.int .i64 2,.slice (some ⟨D,0,none⟩) 3 3] 31):=Z0m E0 (λe=>by simp[Value.ownBlock] at e<;>omega) (by simp only[Z3,Z2];rw[XA (by omega),YZ trivial]);clear E0)
 refine(Z3P _ _ _).mono ?_;rintro e w15 ⟨rfl,Ka⟩;have hE15:=hE14.trans Ka;have gp15:=Ka.get gp14;have gk15:=Ka.get gk14;have Pc:=Z00 K9 Ka;rename_i Q K hK;refine hK _ _ ?_;clear hK
 go_wp2_with (
  at_builtin
  go_loud (refine UG _ rfl _ _ _ rfl (w13.heap.size+1+1) 75 Tryz.t75 (.agg #[.int .i64 0,.int .i64 0,.int .i64 0,.int .i64 0,.int .i64 0]) 5 40 u68 i80 t80z t80s t80b rfl (by omega) (.slice (some ⟨g14,0,none⟩) 3 cp14) 3 (exS.flatMap rsC) rfl (Pc.alloc _) ⟨w15.heap.size,0,none⟩ 1 1 (rsC ⟨20,70,70,0,0⟩) rfl rfl ?_ (by decide) (by simp[maxLen]) (by omega) (by simp only[Z2];have:=Ka.size;omega) ?_)
  ·intro j u hu;rw[Z0c,Z0 (by rw[Z3,YZ rfl]),<-Array.getElem?_toList];exact hu
  intro v' w16 Pd E1 _;obtain⟨g16,c16,cur,rfl,hg16,hh16,Uq⟩:∃g c cur,v'= .slice (some ⟨g,0,none⟩) (3+1) c/\w13.heap.size+1+1<=g/\w16.heap[g]? =some (.cells cur 75)/\cur.toList.take ((3+1)*5)=exS.flatMap rsC++rsC ⟨20,70,70,0,0⟩:=by
   obtain⟨_,⟨_,h⟩|⟨g,c,cur,h1,h2,h3,_,_,_,h4⟩⟩:=Pd
   ·omega
   ·exact⟨g,c,cur,h1,h2,h3,h4⟩
  have hE16:Ext w13 w16:=Ext.grown (hE15.alloc _) E1 (λk hk=>by simp[Value.ownBlock] at hk<;>omega);have gp16:w16.heap[w13.heap.size]? =some (.cells #[.int .i64 38,.int .i64 48] 49):=Z0m E1 (λe=>by simp[Value.ownBlock] at e<;>omega) (((Ext.rfl' w15).alloc _).get gp15);have gk16:w16.heap[w13.heap.size+1]? =some (.cells #[.int .i64 2,.int .i64 4,.int .i64 1,.int .i64 2,.slice (some ⟨D,0,none⟩) 3 3] 31):=Z0m E1 (λe=>by simp[Value.ownBlock] at e<;>omega) (((Ext.rfl' w15).alloc _).get gk15);clear E1;have y0:=Z0 gk16 0;have y1:=Z0 gk16 1;have y2:=Z0 gk16 2;have y3:=Z0 gk16 3;have y4:=Z0 gk16 4;have z4:=Z8 gk16 4;have hlt16:=Z5 gk16;simp only[YC,YA,YB] at y0 y1 y2 y3 y4)
 have hEs:=hE16.setCell ⟨w13.heap.size+1,4,none⟩ (.slice (some ⟨g16,0,none⟩) 4 c16) (by simp only;omega);have Ig:(w16.setCell ⟨w13.heap.size+1,4,none⟩ (.slice (some ⟨g16,0,none⟩) 4 c16)).heap[g16]? =some (.cells cur 75):=(set_ne (by simp only;omega) _).trans hh16;have gks:=Zb gk16 (i:=4) (.slice (some ⟨g16,0,none⟩) 4 c16);have gps:(w16.setCell ⟨w13.heap.size+1,4,none⟩ (.slice (some ⟨g16,0,none⟩) 4 c16)).heap[w13.heap.size]? =some (.cells #[.int .i64 38,.int .i64 48] 49):=(set_ne (by simp only;omega) _).trans gp16;replace gks:(w16.setCell ⟨w13.heap.size+1,4,none⟩ (.slice (some ⟨g16,0,none⟩) 4 c16)).heap[w13.heap.size+1]? =some (.cells #[.int .i64 2,.int .i64 4,.int .i64 1,.int .i64 2,.slice (some ⟨g16,0,none⟩) 4 c16] 31):=gks;generalize (w16.setCell ⟨w13.heap.size+1,4,none⟩ (.slice (some ⟨g16,0,none⟩) 4 c16))=ws at hEs Ig gks gps⊢;have Ag:=Pb.trans hEs;refine(Zca g16 c16 ws (Z6Y (L:=exS4) Ig (Uq.trans (by rfl))) (C3.ext Ag) (Ww.ext Ag)).mono ?_;rintro e w17 ⟨v33,rfl,hv33,Kb⟩;obtain⟨a33,c33,rfl,hr33,hx33⟩:=hv33.rawI;have gk17:=Kb.get gks;have gp17:=Kb.get gps;have hg17:=Kb.get Ig;have Pe:=Ag.trans Kb;clear hx33 y0 y1 y2 y3 y4 z4;have y0:=Z0 gk17 0;have y1:=Z0 gk17 1;have y2:=Z0 gk17 2;have y3:=Z0 gk17 3;have y4:=Z0 gk17 4
 simp only[YC,YA,YB] at y0 y1 y2 y3 y4;rename_i Q K hK;refine hK _ _ ?_;clear hK;go_wp2_with fail;refine(Zcb g16 c16 w17 (Z6Y (L:=exS4) hg17 (Uq.trans (by rfl))) (C3.ext Pe) (Ww.ext Pe)).mono ?_;rintro e w18 ⟨v35,rfl,hv35,M6⟩;obtain⟨a35,c35,rfl,hr35,hx35⟩:=hv35.rawI;have Ur:=hr33.ext M6;have hE18:=hEs.trans (Kb.trans M6);have Us:=K8.trans hE18;have Ut:=K7.trans Us;have El:=K6.trans Ut;have Bv:=K5.trans El;have Jp:=Fh.trans Bv;have E5:=Uj.trans Jp;have Bg:=Ui.trans E5;have B4:=D9.trans Bg;have Ak:=Py.trans B4;have hr9z:=T9.ext Ak;have Uu:=hr11.ext B4;have Uv:=hr12.ext B4;have gp8z:=Jp.get gp8;have gp9z:=Bv.get gp9;have gp10z:=El.get gp10;have gp18z:=M6.get gp17;have hcz:=Pe.trans M6;clear hx35 y0 y1 y2 y3 y4 q0 q1 q2 q3 q4 r0 r1 r2 r3 r4 Ak B4 Bg E5 Jp Bv El Ut Us Dh Cn Cg F6 Py D9 Ui Uj Fh K5 K6 K7 K8 Ew E3 Ij Wf Qe hc6 Wh Wi Wj M3 M4 M5;rename_i Q K hK;refine hK _ _ ?_;clear hK;go_wp2_with fail;refine(Z25 a9 3 c9 (Z0Q 10 2 5 3 exL [0,2,3]) _ 3 3 exA _ v_ap.2.2 rfl (by decide) (hr9z.ext ((Ext.rfl' w18).alloc _)) (ZaN (by simp only[Z3,Z2];exact YZ trivial) rfl)).mono ?_
 rintro e w19 ⟨rfl,hE⟩;have Uw:=((Ext.rfl' w18).alloc _).trans hE;rw[v_ap.1];clear hE;rename_i Q K hK;refine hK _ _ ?_;clear hK;go_wp2_with fail;refine(Z55 a11 2 c11 [[0,1,2],[3,4,5]] _ 2 2 [[0,1,2],[3,4,5]] _ rfl rfl (by decide) (Uu.ext (((Uw.alloc _).alloc _).alloc _)) (Zcc (b:=w19.heap.size) (by simp only[Z3,Z2];rw[XA (by omega),XA (by omega),YZ trivial]) (by simp only[Z3,Z2];rw[XA (by omega),YZ trivial]) (by simp only[Z3,Z2];exact YZ trivial))).mono ?_;rintro e w20 ⟨rfl,hE⟩;have Ux:=Uw.trans (((((Ext.rfl' w19).alloc _).alloc _).alloc _).trans hE);rw[show decide (([[0,1,2],[3,4,5]]:List (List Int))=[[0,1,2],[3,4,5]])=true from by decide];clear hE;rename_i Q K hK;refine hK _ _ ?_;clear hK;go_wp2_with fail;refine(Z1d a12 1 c12 [6] _ 1 1 [6] _ rfl rfl (by decide) (Uv.ext (Ux.alloc _)) (Z0V (by simp only[Z3,Z2];exact YZ trivial) rfl)).mono ?_;rintro e w21 ⟨rfl,hE⟩;have Hh:=Ux.trans (((Ext.rfl' w20).alloc _).trans hE);rw[show decide (([6]:List Int)=[6])=true from by decide];clear hE;rename_i Q K hK;refine hK _ _ ?_;clear hK;go_wp2_with fail;obtain⟨w1,Fq⟩:∃w1:World,w1=w21:=⟨_,rfl⟩;have gp8w:=Hh.get gp8z;have gp9w:=Hh.get gp9z;have gp10w:=Hh.get gp10z;have gp18w:=Hh.get gp18z
 have Nf:=Ur.ext Hh;have Ng:=hr35.ext Hh;have hcw:=hcz.trans Hh;rw[<-Fq] at gp8w gp9w gp10w gp18w Nf Ng hcw⊢;clear Fq;have z8:=Zc gp8w;have gz8:=Zet z8.1;have gy8:=Zet z8.2.1;clear z8;have z9:=Zc gp9w;have gz9:=Zet z9.1;have gy9:=Zet z9.2.1;clear z9;have z10:=Zc gp10w;have gz10:=Zet z10.1;have gy10:=Zet z10.2.1;clear z10;have z18:=Zc gp18w;have gz18:=Zet z18.1;have gy18:=Zet z18.2.1;clear z18;refine ZeG 49 (by kernel_rfl) ?_;refine ZeB [0] (by kernel_rfl) (by kernel_rfl) ?_;simp only[ZeD,YB,YA,YK,YJ]
 repeat (go_big_quiet_step (fail))
 refine XU ?_;refine ZeX 1 (f:=30) (args:= #[.int .i64 93,.int .i64 102]) (v:= .agg #[.int .i64 93,.int .i64 102]) (by kernel_rfl) rfl (by kernel_rfl) rfl (λW=>by simp[go_sem,execOp,Act.eval]) (λW _=>Z3P 93 102 W) ?_;go_simp;refine ZeB [2,3,4] (by kernel_rfl) (by kernel_rfl) ?_;simp only[ZeD,YB,YA,YK,YJ]
 repeat (go_big_quiet_step (fail))
 refine XU ?_;refine ZeX 5 (f:=30) (args:= #[.int .i64 93,.int .i64 100]) (v:= .agg #[.int .i64 93,.int .i64 100]) (by kernel_rfl) rfl (by kernel_rfl) rfl (λW=>by simp[go_sem,execOp,Act.eval]) (λW _=>Z3P 93 100 W) ?_;go_simp;refine ZeB [6,7,8,9] (by kernel_rfl) (by kernel_rfl) ?_;simp only[ZeD,YB,YA,YK,YJ]
 repeat (go_big_quiet_step (fail))
 refine XU ?_;refine ZeX 10 (f:=30) (args:= #[.int .i64 73,.int .i64 80]) (v:= .agg #[.int .i64 73,.int .i64 80]) (by kernel_rfl) rfl (by kernel_rfl) rfl (λW=>by simp[go_sem,execOp,Act.eval]) (λW _=>Z3P 73 80 W) ?_;go_simp;refine ZeB [11,12,13,14,15,16,17,18,19,20,21,22,23,24,25,26,27,28,29,30,31,32,33,34] (by kernel_rfl) (by kernel_rfl) ?_;simp only[ZeD,YB,YA,YK,YJ]
 repeat (go_big_quiet_step (fail))
 refine XU ?_;refine ZeX 35 (f:=30) (args:= #[.int .i64 38,.int .i64 48]) (v:= .agg #[.int .i64 38,.int .i64 48]) (by kernel_rfl) rfl (by kernel_rfl) rfl (λW=>by simp[go_sem,execOp,Act.eval]) (λW _=>Z3P 38 48 W) ?_;go_simp;refine ZeB [36,37,38,39] (by kernel_rfl) (by kernel_rfl) ?_;simp only[ZeD,YB,YA,YK,YJ]
 repeat (go_big_quiet_step (fail))
 refine XU ?_;refine Zfa 40 rfl (by kernel_rfl) rfl (λW hW=>Zf3 ⟨.slice (some ⟨W.heap.size,0,none⟩) 2 2,W.alloc (.cells #[.int .i64 1,.int .i64 3] 3),by simp[go_sem,execOp,Act.eval],(Ext.rfl' W).alloc _,?_⟩);have m9:RawI (W.alloc (.cells #[.int .i64 1,.int .i64 3] 3)) (some ⟨W.heap.size,0,none⟩) [1,3]:=Z0V ((Z3 _ _ _).trans (YZ rfl)) rfl;have e9:=hW.alloc (.cells #[.int .i64 1,.int .i64 3] 3);obtain⟨b9,Pg⟩:∃b,b=W.heap.size:=⟨_,rfl⟩;rw[<-Pg] at m9;rw[<-Pg];generalize W.alloc _=W9 at m9 e9⊢;clear Pg hW;clear W;go_simp
 refine ZeX 41 (f:=35) (args:= #[.slice a33 2 c33,.slice (some ⟨b9,0,none⟩) 2 2]) (v:= .bool true) (by kernel_rfl) rfl (by kernel_rfl) rfl (λW=>by simp[go_sem,execOp,Act.eval]) (λW hW=>by
  have:=Z1d a33 2 c33 [1,3] (some ⟨b9,0,none⟩) 2 2 [1,3] W rfl rfl (by decide) (Nf.ext (e9.trans hW)) (m9.ext hW)
  rwa [XX rfl] at this) ?_
 go_simp;refine ZeB [42,43,44] (by kernel_rfl) (by kernel_rfl) ?_;simp only[ZeD,YB,YA,YK,YJ]
 repeat (go_big_quiet_step (fail))
 refine XU ?_;refine Zfa 45 rfl (by kernel_rfl) rfl (λW hW=>Zf3 ⟨.slice (some ⟨W.heap.size,0,none⟩) 3 3,W.alloc (.cells #[.int .i64 0,.int .i64 1,.int .i64 2] 3),by simp[go_sem,execOp,Act.eval],(Ext.rfl' W).alloc _,?_⟩);clear m9;have m9:RawI (W.alloc (.cells #[.int .i64 0,.int .i64 1,.int .i64 2] 3)) (some ⟨W.heap.size,0,none⟩) [0,1,2]:=Z0V ((Z3 _ _ _).trans (YZ rfl)) rfl;have e9:=(e9.trans hW).alloc (.cells #[.int .i64 0,.int .i64 1,.int .i64 2] 3);obtain⟨b9,Pg⟩:∃b,b=W.heap.size:=⟨_,rfl⟩;rw[<-Pg] at m9;rw[<-Pg];generalize W.alloc _=W9 at m9 e9⊢;clear Pg hW;clear W;go_simp
 refine ZeX 46 (f:=35) (args:= #[.slice a35 3 c35,.slice (some ⟨b9,0,none⟩) 3 3]) (v:= .bool true) (by kernel_rfl) rfl (by kernel_rfl) rfl (λW=>by simp[go_sem,execOp,Act.eval]) (λW hW=>by
  have:=Z1d a35 3 c35 [0,1,2] (some ⟨b9,0,none⟩) 3 3 [0,1,2] W rfl rfl (by decide) (Ng.ext (e9.trans hW)) (m9.ext hW)
  rwa [XX rfl] at this) ?_
 go_simp;refine ZeB [47,48] (by kernel_rfl) (by kernel_rfl) ?_;simp only[ZeD,YB,YA,YK,YJ]
 repeat (go_big_quiet_step (fail))
 refine XU ?_;refine Zf6 (by kernel_rfl) (λW hW=> ?_);have hEf:=Gn.trans (hcw.trans (e9.trans hW));go_wp2;go_ret;exact⟨rfl,hEf⟩
section
variable [Tw]
def Z1B(L:List Sf):Bool:=decide (20<L.length)||L.any λx=>decide (100<x.nm.size)
theorem ZaR(a b c m:Int)(base:Option Addr)(n cap:Nat)(L:List Sf)(w:World)(A1:L.length=n)(hS:RawA w base L):
 Calls gp 5 #[.agg #[a,b,c,m,.slice base n cap]] w λe w'=>e= .returned (.bool (Z1B L))/\Ext w w':=by
 by_cases Mj:20<L.length
 ·have hz:Z1B L=true:=by rw[Z1B,XX Mj,RX]
  have hn:(20:Int)<(n:Int):=by omega
  rw[hz];clear Mj hz;go_enter fk Tryz.func5,Tryz.ntmps5;go_wp2;go_ret;exact⟨rfl,(Ext.rfl' w).alloc _⟩
 ·have hn:(n:Int)<=20:=by omega
  have H:Hid (Z1B L=(L.drop 0).any λx=>decide (100<x.nm.size)):=by show _=_;rw[Z1B,XV Mj,TV];rfl
  clear Mj;go_enter fk Tryz.func5,Tryz.ntmps5;go_wp2;go_loopw [3] (λv wr=>∃i:Nat,i<=n/\v= .int .i64 i/\wr.heap[w.heap.size]? =some (.cells #[a,b,c,m,.slice base n cap] 26)/\Ext w wr/\Hid (Z1B L=(L.drop i).any λx=>decide (100<x.nm.size))) (λv _=>n - (intOf v).toNat)
  case atStart=>exact⟨0,XS _,rfl,by rw[Z3,YZ rfl],(Ext.rfl' w).alloc _,H⟩
  case round=>
   obtain⟨i,hi,rfl,hr,hE,hH⟩:=hrel;clear H;have q4:=Z0 hr 4;simp only[YC,YA,YB] at q4;by_cases Ao:i=n
   ·subst Ao;have hz:Z1B L=false:=(by rw[hH.out,<-A1,TB];rfl);go_wp2;go_ret;exact⟨ZP (a:=false) hz.symm,hE⟩
   ·have A3:i<n:=(by omega);obtain⟨x,hx⟩:∃x,L[i]? =some x:=⟨_,YH (by omega)⟩;obtain⟨b',off,rfl,hb,hs,Me⟩:=(hS.ext hE) i x hx;have k0:=hs.1;have Ai:Hid (Z1B L=(decide (100<x.nm.size)||(L.drop (i+1)).any λx=>decide (100<x.nm.size))):=(by show _=_;rw[hH.out,Z0b hx,List.any_cons]);clear hH hx;unfold maxLen at Me;have Fd:¬n<=i:=(by omega);by_cases h1:100<x.nm.size
    ·have hz:Z1B L=true:=(by rw[Ai.out,XX h1,RX]);have h1':(100:Int)<(x.nm.size:Int):=(by omega);clear Ai h1;go_wp2;go_ret;exact⟨ZP (a:=true) hz.symm,hE⟩
    ·have Eu:Hid (Z1B L=(L.drop (i+1)).any λx=>decide (100<x.nm.size)):=(by show _=_;rw[Ai.out,XV h1,TV]);have h1':(x.nm.size:Int)<=100:=(by omega);clear Ai h1;go_wp2;exact⟨⟨i+1,by omega,by push_cast;rfl,hr,hE,Eu⟩,by simp[intOf];omega⟩
theorem Zgh(s:Rs):okS s=(inR s.a 0 90&&decide (0<=s.m/\s.m<=s.M/\s.M<=99999)&&inR s.wi 0 9&&inR s.li 0 9):=rfl
theorem Zga(r0 r1 r2 r3:Int):Z5y r0 r1 r2 r3=if inR r0 0 999&&inR r1 0 999&&inR r2 0 999&&inR r3 0 999&&decide (r0<=r1) then 0 else 1:=rfl
theorem ZfQ(r0 r1 r2 r3:Int)(base:Option Addr)(n cap:Nat)(S:List Rs)(w:World)(A1:S.length=n)(hS:RawS w base S):
 Calls gp 18 #[.agg #[r0,r1,r2,r3,.slice base n cap]] w λe w'=>e= .returned (.int .i64 (ZC r0 r1 r2 r3 S))/\Ext w w':=by
 have H0:Hid (ZC r0 r1 r2 r3 S=if inR r0 0 999&&inR r1 0 999&&inR r2 0 999&&inR r3 0 999&&decide (r0<=r1) then(if 8<n then 2 else if(S.drop 0).all okS then 0 else 1) else 1):=by
  show _=_;rw[ZC,firstV,Zga];by_cases h:(inR r0 0 999&&inR r1 0 999&&inR r2 0 999&&inR r3 0 999&&decide (r0<=r1))=true
  ·rw[YZ h,YZ h,YZ rfl,firstV,Z23,A1];by_cases h8:8<n
   ·simp[h8]
   ·rw[XA h8,VP];by_cases ha:S.all okS=true
    ·simp[h8,ha,firstV]
    ·simp[h8,ha]
  ·rw[XA h,XA h,XA (by decide)]
 have Ei:=λW=>Zgc r0 0 999 W;have Bj:=λW=>Zgc r1 0 999 W;have Bh:=λW=>Zgc r2 0 999 W;have C9:=λW=>Zgc r3 0 999 W
 generalize inR r0 0 999=b0 at*;generalize inR r1 0 999=b1 at*;generalize inR r2 0 999=b2 at*;generalize inR r3 0 999=b3 at*;have Be:=((Ext.rfl' w).alloc (.cells #[r0,r1,r2,r3,.slice base n cap] 31)).alloc (.cells #[r0,r1,r2,r3] 28);have I2:((w.alloc (.cells #[r0,r1,r2,r3,.slice base n cap] 31)).alloc (.cells #[r0,r1,r2,r3] 28)).heap[w.heap.size]? =some (.cells #[r0,r1,r2,r3,.slice base n cap] 31):=by
  simp only[Z3,Z2];rw[XA (by omega),YZ trivial]
 replace A1:Hid (S.length=n):=A1;have Ey:Hid (RawS w base S):=hS;clear hS;cases b0 with
 |false=>(
   have H1:Hid (ZC r0 r1 r2 r3 S=1):=by show _=_;rw[H0.out];simp
   clear H0;go_enter fk Tryz.func18,Tryz.ntmps18;go_wp2_with (first|(go_at_call 52;(with_reducible refine(Ei _).mono ?_);rintro e w2 ⟨rfl,rfl⟩)|(go_at_call 52;(with_reducible refine(Bj _).mono ?_);rintro e w2 ⟨rfl,rfl⟩)|(go_at_call 52;(with_reducible refine(Bh _).mono ?_);rintro e w2 ⟨rfl,rfl⟩)|(go_at_call 52;(with_reducible refine(C9 _).mono ?_);rintro e w2 ⟨rfl,rfl⟩));go_ret;exact⟨ZK (a:=1) H1.out.symm,Be⟩)
 |true=>
  cases b1 with
  |false=>(
    have H1:Hid (ZC r0 r1 r2 r3 S=1):=(by show _=_;rw[H0.out];simp);clear H0;go_enter fk Tryz.func18,Tryz.ntmps18;go_wp2_with (first|(go_at_call 52;(with_reducible refine(Ei _).mono ?_);rintro e w2 ⟨rfl,rfl⟩)|(go_at_call 52;(with_reducible refine(Bj _).mono ?_);rintro e w2 ⟨rfl,rfl⟩)|(go_at_call 52;(with_reducible refine(Bh _).mono ?_);rintro e w2 ⟨rfl,rfl⟩)|(go_at_call 52;(with_reducible refine(C9 _).mono ?_);rintro e w2 ⟨rfl,rfl⟩));go_ret;exact⟨ZK (a:=1) H1.out.symm,Be⟩)
  |true=>
   cases b2 with
   |false=>(
     have H1:Hid (ZC r0 r1 r2 r3 S=1):=(by show _=_;rw[H0.out];simp);clear H0;go_enter fk Tryz.func18,Tryz.ntmps18;go_wp2_with (first|(go_at_call 52;(with_reducible refine(Ei _).mono ?_);rintro e w2 ⟨rfl,rfl⟩)|(go_at_call 52;(with_reducible refine(Bj _).mono ?_);rintro e w2 ⟨rfl,rfl⟩)|(go_at_call 52;(with_reducible refine(Bh _).mono ?_);rintro e w2 ⟨rfl,rfl⟩)|(go_at_call 52;(with_reducible refine(C9 _).mono ?_);rintro e w2 ⟨rfl,rfl⟩));go_ret;exact⟨ZK (a:=1) H1.out.symm,Be⟩)
   |true=>
    cases b3 with
    |false=>(
      have H1:Hid (ZC r0 r1 r2 r3 S=1):=(by show _=_;rw[H0.out];simp);clear H0;go_enter fk Tryz.func18,Tryz.ntmps18;go_wp2_with (first|(go_at_call 52;(with_reducible refine(Ei _).mono ?_);rintro e w2 ⟨rfl,rfl⟩)|(go_at_call 52;(with_reducible refine(Bj _).mono ?_);rintro e w2 ⟨rfl,rfl⟩)|(go_at_call 52;(with_reducible refine(Bh _).mono ?_);rintro e w2 ⟨rfl,rfl⟩)|(go_at_call 52;(with_reducible refine(C9 _).mono ?_);rintro e w2 ⟨rfl,rfl⟩));go_ret;exact⟨ZK (a:=1) H1.out.symm,Be⟩)
    |true=>
     by_cases hr:r0<=r1
     ·have K1:decide (r0<=r1)=true:=XX hr;rw[K1] at H0;simp only[Bool.and_self,XQ] at H0;clear K1;by_cases h8:8<n
      ·have h8i:(8:Int)<(n:Int):=(by omega);have H1:Hid (ZC r0 r1 r2 r3 S=2):=(by show _=_;rw[H0.out,YZ h8]);clear H0 h8;go_enter fk Tryz.func18,Tryz.ntmps18;go_wp2_with (first|(go_at_call 52;(with_reducible refine(Ei _).mono ?_);rintro e w2 ⟨rfl,rfl⟩)|(go_at_call 52;(with_reducible refine(Bj _).mono ?_);rintro e w2 ⟨rfl,rfl⟩)|(go_at_call 52;(with_reducible refine(Bh _).mono ?_);rintro e w2 ⟨rfl,rfl⟩)|(go_at_call 52;(with_reducible refine(C9 _).mono ?_);rintro e w2 ⟨rfl,rfl⟩));go_ret;exact⟨ZK (a:=2) H1.out.symm,Be⟩
      ·have h8i:(n:Int)<=8:=(by omega);have H1:Hid (ZC r0 r1 r2 r3 S=if(S.drop 0).all okS then 0 else 1):=(by show _=_;rw[H0.out,XA h8]);clear H0 h8;go_enter fk Tryz.func18,Tryz.ntmps18;go_wp2_with (first|(go_at_call 52;(with_reducible refine(Ei _).mono ?_);rintro e w2 ⟨rfl,rfl⟩)|(go_at_call 52;(with_reducible refine(Bj _).mono ?_);rintro e w2 ⟨rfl,rfl⟩)|(go_at_call 52;(with_reducible refine(Bh _).mono ?_);rintro e w2 ⟨rfl,rfl⟩)|(go_at_call 52;(with_reducible refine(C9 _).mono ?_);rintro e w2 ⟨rfl,rfl⟩));clear Ei Bj Bh C9;go_loopw [4] (λv wr=>∃i:Nat,i<=n/\v= .int .i64 i/\Ext w wr/\wr.heap[w.heap.size]? =some (.cells #[r0,r1,r2,r3,.slice base n cap] 31)/\Hid (ZC r0 r1 r2 r3 S=if(S.drop i).all okS then 0 else 1)) (λv _=>n - (intOf v).toNat)
       case atStart=>exact⟨0,XS _,rfl,Be,I2,H1⟩
       case round=>
        clear Be I2 H1;obtain⟨i,hi,rfl,hE,hb,HP⟩:=hrel;have q4:=Z0 hb 4;simp only[YC,YA,YB] at q4;by_cases Ao:i=n
        ·subst Ao;have HR:Hid (ZC r0 r1 r2 r3 S=0):=(by show _=_;rw[HP.out,TJ (by have:=A1.out;omega)];rfl);clear HP;go_wp2;go_ret;exact⟨ZK (a:=0) HR.out.symm,hE⟩
        ·have A3:i<n:=(by omega);have E6:(i:Int)<(n:Int):=(by omega);obtain⟨s,hs⟩:∃s,S[i]? =some s:=⟨_,YH (by have:=A1.out;omega)⟩;obtain⟨BS,OS,rfl,hBS,sh⟩:=Ey.out i s hs;have HN:Hid (ZC r0 r1 r2 r3 S=if inR s.a 0 90&&decide (0<=s.m/\s.m<=s.M/\s.M<=99999)&&inR s.wi 0 9&&inR s.li 0 9&&(S.drop (i+1)).all okS then 0 else 1):=(by show _=_;rw[HP.out,Z0b hs,QI,Zgh]);have s0:=hE.cellS sh.c0;have s1:=hE.cellS sh.c1;have s2:=hE.cellS sh.c2;have s3:=hE.cellS sh.c3;have s4:=hE.cellS sh.c4;have Ei:=λW=>Zgc s.a 0 90 W;have Bh:=λW=>Zgc s.wi 0 9 W;have C9:=λW=>Zgc s.li 0 9 W
         have Bj:=λW=>Z2e s.m s.M 0 99999 W
         clear HP hs sh Ey;generalize inR s.a 0 90=b0 at*;generalize decide (0<=s.m/\s.m<=s.M/\s.M<=99999)=b1 at*;generalize inR s.wi 0 9=b2 at*;generalize inR s.li 0 9=b3 at*;have A4:=hE.alloc (.cells #[s.a,s.m,s.M,s.wi,s.li] 75);have As:=((Ext.rfl' wr).alloc (.cells #[s.a,s.m,s.M,s.wi,s.li] 75)).get hb;have Aw:(wr.alloc (.cells #[s.a,s.m,s.M,s.wi,s.li] 75)).heap[wr.heap.size]? =some (.cells #[s.a,s.m,s.M,s.wi,s.li] 75):=(by rw[Z3,YZ rfl]);cases b0 with
         |false=>(
           have HN2:Hid (ZC r0 r1 r2 r3 S=1):=(by show _=_;rw[HN.out];simp);clear HN;go_wp2_with (first|(go_at_call 52;(with_reducible refine(Ei _).mono ?_);rintro e w2 ⟨rfl,rfl⟩)|(go_at_call 54;(with_reducible refine(Bj _).mono ?_);rintro e w9 ⟨rfl,Bv⟩;replace A4:=A4.trans Bv;replace As:=Bv.get As;replace Aw:=Bv.get Aw;clear Bv;have y0:=Z0 Aw 0;have y1:=Z0 Aw 1;have y2:=Z0 Aw 2;have y3:=Z0 Aw 3;have y4:=Z0 Aw 4;simp only[YC,YA,YB] at y0 y1 y2 y3 y4)|(go_at_call 52;(with_reducible refine(Bh _).mono ?_);rintro e w2 ⟨rfl,rfl⟩)|(go_at_call 52;(with_reducible refine(C9 _).mono ?_);rintro e w2 ⟨rfl,rfl⟩));go_ret;exact⟨ZK (a:=1) HN2.out.symm,A4⟩)
         |true=>
          cases b1 with
          |false=>(
            have HN2:Hid (ZC r0 r1 r2 r3 S=1):=(by show _=_;rw[HN.out];simp);clear HN;go_wp2_with (first|(go_at_call 52;(with_reducible refine(Ei _).mono ?_);rintro e w2 ⟨rfl,rfl⟩)|(go_at_call 54;(with_reducible refine(Bj _).mono ?_);rintro e w9 ⟨rfl,Bv⟩;replace A4:=A4.trans Bv;replace As:=Bv.get As;replace Aw:=Bv.get Aw;clear Bv;have y0:=Z0 Aw 0;have y1:=Z0 Aw 1;have y2:=Z0 Aw 2;have y3:=Z0 Aw 3;have y4:=Z0 Aw 4;simp only[YC,YA,YB] at y0 y1 y2 y3 y4)|(go_at_call 52;(with_reducible refine(Bh _).mono ?_);rintro e w2 ⟨rfl,rfl⟩)|(go_at_call 52;(with_reducible refine(C9 _).mono ?_);rintro e w2 ⟨rfl,rfl⟩));go_ret;exact⟨ZK (a:=1) HN2.out.symm,A4⟩)
          |true=>
           cases b2 with
           |false=>(
             have HN2:Hid (ZC r0 r1 r2 r3 S=1):=(by show _=_;rw[HN.out];simp);clear HN;go_wp2_with (first|(go_at_call 52;(with_reducible refine(Ei _).mono ?_);rintro e w2 ⟨rfl,rfl⟩)|(go_at_call 54;(with_reducible refine(Bj _).mono ?_);rintro e w9 ⟨rfl,Bv⟩;replace A4:=A4.trans Bv;replace As:=Bv.get As;replace Aw:=Bv.get Aw;clear Bv;have y0:=Z0 Aw 0;have y1:=Z0 Aw 1;have y2:=Z0 Aw 2;have y3:=Z0 Aw 3;have y4:=Z0 Aw 4;simp only[YC,YA,YB] at y0 y1 y2 y3 y4)|(go_at_call 52;(with_reducible refine(Bh _).mono ?_);rintro e w2 ⟨rfl,rfl⟩)|(go_at_call 52;(with_reducible refine(C9 _).mono ?_);rintro e w2 ⟨rfl,rfl⟩));go_ret;exact⟨ZK (a:=1) HN2.out.symm,A4⟩)
           |true=>
            cases b3 with
            |false=>(
              have HN2:Hid (ZC r0 r1 r2 r3 S=1):=(by show _=_;rw[HN.out];simp);clear HN;go_wp2_with (first|(go_at_call 52;(with_reducible refine(Ei _).mono ?_);rintro e w2 ⟨rfl,rfl⟩)|(go_at_call 54;(with_reducible refine(Bj _).mono ?_);rintro e w9 ⟨rfl,Bv⟩;replace A4:=A4.trans Bv;replace As:=Bv.get As;replace Aw:=Bv.get Aw;clear Bv;have y0:=Z0 Aw 0;have y1:=Z0 Aw 1;have y2:=Z0 Aw 2;have y3:=Z0 Aw 3;have y4:=Z0 Aw 4;simp only[YC,YA,YB] at y0 y1 y2 y3 y4)|(go_at_call 52;(with_reducible refine(Bh _).mono ?_);rintro e w2 ⟨rfl,rfl⟩)|(go_at_call 52;(with_reducible refine(C9 _).mono ?_);rintro e w2 ⟨rfl,rfl⟩));go_ret;exact⟨ZK (a:=1) HN2.out.symm,A4⟩)
            |true=>
             have HN2:Hid (ZC r0 r1 r2 r3 S=if(S.drop (i+1)).all okS then 0 else 1):=(by show _=_;rw[HN.out];rfl);clear HN;go_wp2_with (first|(go_at_call 52;(with_reducible refine(Ei _).mono ?_);rintro e w2 ⟨rfl,rfl⟩)|(go_at_call 54;(with_reducible refine(Bj _).mono ?_);rintro e w9 ⟨rfl,Bv⟩;replace A4:=A4.trans Bv;replace As:=Bv.get As;replace Aw:=Bv.get Aw;clear Bv;have y0:=Z0 Aw 0;have y1:=Z0 Aw 1;have y2:=Z0 Aw 2;have y3:=Z0 Aw 3;have y4:=Z0 Aw 4;simp only[YC,YA,YB] at y0 y1 y2 y3 y4)|(go_at_call 52;(with_reducible refine(Bh _).mono ?_);rintro e w2 ⟨rfl,rfl⟩)|(go_at_call 52;(with_reducible refine(C9 _).mono ?_);rintro e w2 ⟨rfl,rfl⟩));go_roundw
             case rel=>exact⟨i+1,by omega,by push_cast;rfl,A4,As,HN2⟩
             case measure=>simp[intOf];omega
     ·have K1:decide (r0<=r1)=false:=XV hr;have hri:r1<r0:=(by omega);have H1:Hid (ZC r0 r1 r2 r3 S=1):=(by show _=_;rw[H0.out,K1];simp);clear H0 K1;go_enter fk Tryz.func18,Tryz.ntmps18;go_wp2_with (first|(go_at_call 52;(with_reducible refine(Ei _).mono ?_);rintro e w2 ⟨rfl,rfl⟩)|(go_at_call 52;(with_reducible refine(Bj _).mono ?_);rintro e w2 ⟨rfl,rfl⟩)|(go_at_call 52;(with_reducible refine(Bh _).mono ?_);rintro e w2 ⟨rfl,rfl⟩)|(go_at_call 52;(with_reducible refine(C9 _).mono ?_);rintro e w2 ⟨rfl,rfl⟩));go_ret;exact⟨ZK (a:=1) H1.out.symm,Be⟩
end
end Go.Proofs.Tryq
namespace Go.Proofs.Tryp
section
open Go.Ns Go.Shelf Go.Proofs Go.Proofs.Tryq
attribute [local instance] k3
theorem Zqv(x:List UInt8)(l:List (List UInt8))(h:2<=x.length):2<=(ZY x l).length:=by
 unfold ZY;rw[show[32].intercalate (x::l)=Lib.join (x::l) [32] from rfl,Lib.join_cons];simp only[XK];omega
theorem ZpA{l:List (List UInt8)}{R:List (List UInt8)}(hx:x.length<=1000)(hl:∀y∈l,y.length<=1000)(hn:l.length<=10)(hR:∀y∈R,y.length<=140737488355329)(hr:R.length<=20):(ZY x l++R.flatten).length<=4611686018427387904:=by
 have h1:=ZnA 1000 (x::l) (by
  intro y hy;rcases XE.1 hy with rfl|hy
  ·exact hx
  ·exact hl y hy)
 have h2:=Zo5 140737488355329 R hR;have h3:=TS 140737488355329 hr;have h4:(x::l).length*1001<=11*1001:=TS _ (by simp only[YP];omega);simp only[ZY,XK,YP,XM];omega
theorem ZpS{a b c m:Int}{L:List Sf}(h:Zp a b c m L=0):2<=(Zot a b c m L).length/\(Zot a b c m L).length<=4611686018427387904:=by
 obtain⟨ha,hb,hc,hm,h9,hL⟩:=ZnT h;constructor
 ·have:=Zqv [114,117,108,101] ([a,b,c,m].map Lib.itoa) (by decide);simp only[Zot,Zpj,XK];omega
 ·refine ZpA (x:=[114,117,108,101]) (l:=ZX a b c m) (by decide) (ZnV ha hb hc hm) (by simp[ZX]) ?_ (by simp only[UI];omega);intro y hy;obtain⟨z,hz,rfl⟩:=VD.1 hy;have:=Zpu z (hL z hz).l;simp only[ZnM,ZY,XK,YP,XM];omega
theorem Zqw{a b c m:Int}{L:List Rs}(h:ZC a b c m L=0):2<=(ZpM a b c m L).length/\(ZpM a b c m L).length<=4611686018427387904:=by
 obtain⟨ha,hb,hc,hm,h9,hL⟩:=Zob h;constructor
 ·have:=Zqv [115,105,103,104,116] (ZX a b c m) (by decide);simp only[ZpM,XK];omega
 ·refine ZpA (x:=[115,105,103,104,116]) (l:=ZX a b c m) (by decide) (ZnV ha hb hc hm) (by simp[ZX]) ?_ (by simp only[UI];omega);intro y hy;obtain⟨z,hz,rfl⟩:=VD.1 hy;have:=ZoE (hL z hz);simp only[ZY,XK,YP,XM];omega
theorem ZpB{l:List (List UInt8)}(hl:l≠[]){i:Nat}(h:i<2):∃ct,(pcs l false).flatten.take ((pcs l false).flatten.length - i)=(pcs l ct).flatten:=by
 obtain rfl|rfl:i=0\/i=1:=by omega
 ·exact⟨false,by rw[Nat.sub_zero,UT]⟩
 ·refine⟨true,?_⟩;rw[pcs_cut l hl,XK,List.length_singleton,Nat.add_sub_cancel,List.take_left]
section
variable (a b c m a2 b2 c2 m2:Int)(base base2:Option Addr)(n cap n2 cap2:Nat)(L:List Sf)(S:List Rs)(w W:World)(A1:L.length=n)(B8:S.length=n2)(hM:Meas w)(hp:Pow w)(hx:MaxL w)(he:ErrF w)(hS:RawA w base L)(hC:RawS w base2 S)
include B8 hp hx he hC in
theorem Zqx(hE:Ext w W)
 (hs:W.heap[w.heap.size]? =some (.cells #[a,b,c,m,.slice base n cap] 26))(hc:W.heap[w.heap.size+1]? =some (.cells #[a2,b2,c2,m2,.slice base2 n2 cap2] 31))(G:Code->Act->World->Prop)(hK:∀W,Ext w W->W.heap[w.heap.size]? =some (.cells #[a,b,c,m,.slice base n cap] 26)->W.heap[w.heap.size+1]? =some (.cells #[a2,b2,c2,m2,.slice base2 n2 cap2] 31)->Zrt 8 w W G)
 :Zrt 5 w W G:=by
 by_cases h0:ZC a2 b2 c2 m2 S=0
 ·have hl:=Zqw h0;have hN:=Zqi a2 b2 c2 m2 S;refine Zqu S a b c m a2 b2 c2 m2 base base2 n cap n2 cap2 w W (ZpM a2 b2 c2 m2 S) hE hs hc G hK hl.1 hl.2 (λW hE=>ZoZ a2 b2 c2 m2 base2 n2 cap2 S W B8 (hC.ext hE) (hp.ext hE) h0) (λW hE=> ?_) (λW i hi hE=> ?_) (λW bs cp hE hR=>ZoF a2 b2 c2 m2 bs base2 n2 cp cap2 S W B8 (by have:=(Zob h0).2.2.2.2.1;omega) hR (hC.ext hE))
  ·have:=ZfQ a2 b2 c2 m2 base2 n2 cap2 S W B8 (hC.ext hE);rw[h0] at this;exact this
  ·obtain⟨ct,Pu⟩:=ZpB (l:=Zoc a2 b2 c2 m2 S) (by simp[Zoc]) hi;rw[hN,Pu];refine(ZoJ a2 b2 c2 m2 S ct W h0 (hx.ext hE) (he.ext hE)).mono ?_;rintro e W' ⟨bs,cp,rfl,hR,hE'⟩;exact⟨bs,cp,by rw[B8],hR,hE'⟩
 ·exact ZqR _ h0 a b c m a2 b2 c2 m2 base base2 n cap n2 cap2 w W [] hE hs hc G hK (λW hE=>ZoD a2 b2 c2 m2 base2 n2 cap2 S W B8 (hC.ext hE) h0) (λW hE=>ZfQ a2 b2 c2 m2 base2 n2 cap2 S W B8 (hC.ext hE))
omit B8 hp hx he hC in
include A1 hM hp hx he hS in
theorem ZpT(hg:Z1B L=false)(hE:Ext w W)
 (hs:W.heap[w.heap.size]? =some (.cells #[a,b,c,m,.slice base n cap] 26))(hc:W.heap[w.heap.size+1]? =some (.cells #[a2,b2,c2,m2,.slice base2 n2 cap2] 31))(G:Code->Act->World->Prop)(hK:∀W,Ext w W->W.heap[w.heap.size]? =some (.cells #[a,b,c,m,.slice base n cap] 26)->W.heap[w.heap.size+1]? =some (.cells #[a2,b2,c2,m2,.slice base2 n2 cap2] 31)->Zrt 5 w W G)
 :Zrt 2 w W G:=by
 have Mj:L.length<=20:=by
  simp only[Z1B,Bool.or_eq_false_iff,QL] at hg;omega
 by_cases h0:Zp a b c m L=0
 ·have hl:=ZpS h0;have hN:=ZpN a b c m L;obtain⟨ha,hb,hc',hm,h9,hL⟩:=ZnT h0;refine ZpR L a b c m a2 b2 c2 m2 base base2 n cap n2 cap2 w W (Zot a b c m L) hE hs hc G hK hl.1 hl.2 (λW hE=>ZoC a b c m base n cap L W A1 (by omega) (hM.ext hE) (hS.ext hE) (hp.ext hE) h0 ha.s hb.s hc'.s hm.s λx h=>(hL x h).l) (λW hE=> ?_) (λW i hi hE=> ?_) (λW bs cp hE hR=>ZkO a b c m bs base n cp cap L W A1 (by omega) hR (hS.ext hE))
  ·have:=Z1P a b c m base n cap L W A1 (by omega) (hS.ext hE);rw[h0] at this;exact this
  ·obtain⟨ct,Pu⟩:=ZpB (l:=ZnJ a b c m L) (by simp[ZnJ]) hi;rw[hN,Pu];refine(Zoq a b c m L ct W h0 (hM.ext hE) (hx.ext hE) (he.ext hE)).mono ?_;rintro e W' ⟨bs,cp,rfl,hR,hE'⟩;exact⟨bs,cp,by rw[A1],hR,hE'⟩
 ·exact Zqt _ h0 a b c m a2 b2 c2 m2 base base2 n cap n2 cap2 w W [] hE hs hc G hK (λW hE=>Zop a b c m base n cap L W A1 (hM.ext hE) (hS.ext hE) h0) (λW hE=>Z1P a b c m base n cap L W A1 (by omega) (hS.ext hE))
include A1 hM hS B8 hp hx he hC in
theorem back_hits(cd:Code)(Db:Tryz.f4.body=some cd):Y0 Tryp.prog cd (Zpz 6 4 (Ext w)) {tmps:= #[.agg #[a,b,c,m,.slice base n cap],.agg #[a2,b2,c2,m2,.slice base2 n2 cap2]]++Array.replicate (Tryz.f4.ntmps - 2) undef,defers:=[]} w:=by
 have Uy:cd=body4:=by unfold body4;rw[Db];rfl
 have Gb:((w.alloc (.cells #[a,b,c,m,.slice base n cap] 26)).alloc (.cells #[a2,b2,c2,m2,.slice base2 n2 cap2] 31)).heap[w.heap.size]? =some (.cells #[a,b,c,m,.slice base n cap] 26):=by simp only[Z3,Z2];rw[XA (by omega),YZ trivial]
 have Cq:((w.alloc (.cells #[a,b,c,m,.slice base n cap] 26)).alloc (.cells #[a2,b2,c2,m2,.slice base2 n2 cap2] 31)).heap[w.heap.size+1]? =some (.cells #[a2,b2,c2,m2,.slice base2 n2 cap2] 31):=by simp only[Z3,Z2];rw[YZ trivial]
 have Be:=((Ext.rfl' w).alloc (.cells #[a,b,c,m,.slice base n cap] 26)).alloc (.cells #[a2,b2,c2,m2,.slice base2 n2 cap2] 31);have Dy:=λW hE=>ZaR a b c m base n cap L W A1 (hS.ext (w':=W) hE)
 rw[Uy];clear Db Uy;refine ZkH (c':=Code.seq _ (.seq (.seq _ (.cond _ _ _)) _)) rfl ?_;have Hx:Tryz.f4.ntmps=133:=by kernel_rfl
 rw[Hx];clear Hx;simp only[VZ,YP,XM,Nat.reduceAdd,Nat.reduceSub,UV,UU,TH,UX,YJ,YK];refine Znq λK hk=> ?_
 go_wp2;generalize World.alloc _ (.cells #[a2,b2,c2,m2,.slice base2 n2 cap2] 31)=w1 at Gb Cq Be⊢
 have hA:∀(a:Act)(k:Nat) W,Ext w W->a.tmps.size=133->a.defers=[]->k<133->∀t1 p1 f1 t2 p2 f2 id,Y0 Tryp.prog (.seq (.region id #[⟨some k,.call {callee:= .value (.func 6),args:= #[],argTypes:= #[]},t1,p1,f1,none⟩,⟨some 4,.assign (.tmp k),t2,p2,f2,none⟩] false) .ret) (Zpz 6 4 (Ext w)) a W:=
  λa k W hE hz hd hk t1 p1 f1 t2 p2 f2 id=>Zqr ⟨id,k,t1,p1,f1,t2,p2,f2,rfl,by rw[hz];exact hk,by rw[hz];decide,hd,hE⟩
 obtain⟨q0,q1,q2,q3,q4⟩:=Zgj Gb;obtain⟨p0,p1,p2,p3,p4⟩:=Zgj Cq;by_cases hg:Z1B L=true
 ·rw[hg] at Dy;refine Zpa (Znq λK hk=> ?_);go_wp2_with ((go_at_call 5;refine(Dy _ Be).mono ?_;rintro e W1 ⟨rfl,Ab⟩));refine Zpb (t:=true) rfl ?_;exact hA _ 23 _ (Be.trans Ab) (by simp) rfl (by decide) _ _ _ _ _ _ _
 ·simp only[QP] at hg;rw[hg] at Dy;by_cases hn:20<(n2:Int)
  ·refine Zpa (Znq λK hk=> ?_);go_wp2_with ((go_at_call 5;refine(Dy _ Be).mono ?_;rintro e W1 ⟨rfl,Ab⟩;replace p4:=Ab.cellS p4));refine Zpb (t:=true) rfl ?_;exact hA _ 23 _ (Be.trans Ab) (by simp) rfl (by decide) _ _ _ _ _ _ _
  ·refine Znq λK hk=> ?_
   go_wp2_with ((go_at_call 5;refine(Dy _ Be).mono ?_;rintro e W1 ⟨rfl,Ab⟩;replace p4:=Ab.cellS p4))
   refine ZkH (c':=rest 2 body4) (by kernel_rfl) ?_;refine ZpT a b c m a2 b2 c2 m2 base base2 n cap n2 cap2 L w W1 A1 hM hp hx he hS hg (Be.trans Ab) (Ab.get Gb) (Ab.get Cq) _ ?_ _ rfl rfl rfl;intro W2 A4 Cn E3;refine Zqx a b c m a2 b2 c2 m2 base base2 n cap n2 cap2 S w W2 B8 hp hx he hC A4 Cn E3 _ ?_;intro W3 Ah Cg Ij T hz _ _;refine ZkH (c':= .seq (.region _ #[⟨some 132,.call {callee:= .value (.func 6),args:= #[],argTypes:= #[]},_,_,_,none⟩,⟨some 4,.assign (.tmp 132),_,_,_,none⟩] false) .ret) rfl ?_;exact hA _ 132 _ Ah hz rfl (by decide) _ _ _ _ _ _ _
end
end
section
open Go.Ns Go.Conc Go.Proofs Go.Proofs.Tryq
attribute [local instance] theBan
theorem ZqS{Q:Obj->Prop}(hQ:WOk Q){w w1:World}(e:Ext (clean Q w) (clean Q w1))(j:Jn Q w w1):Below w.heap.size w w1:=by
 refine⟨e.os,e.tape,e.output,by have:=e.size;rwa [Zny,Zny] at this,λk hk=> ?_⟩;have h:=e.old k (by rw[Zny];exact hk);rw[Znw,Znw] at h;obtain⟨o,ho⟩:∃o,w.heap[k]? =some o:=⟨_,YN hk⟩;rw[ho] at h⊢;rcases j.old k o ho with h1|⟨o',h1,h2⟩
 ·exact h1
 ·rw[h1] at h⊢;simp only[XI,XJ] at h⊢;rw[Zo2 h2] at h;by_cases hr:Rd Q o
  ·rw[h,Znu hr]
  ·rw[Znt hr] at h;rw[h] at h2;exact(hQ.coro _ h2).elim
theorem Zre{W:World}(t)(h:Meas W):Meas (retape t W):=h
theorem Zrq{W:World}(t)(h:Deb W):Deb (retape t W):=h
theorem law4_runs{W:World}(Af:∀g,g<12->Z1s W g=true)(Wk:12<=W.heap.size)(Ia:PW W)(hM:Meas W)(Eb:Most W)(hd:Deb W){args:Array Value}(B1:args.size=2)
 (P7:∀cd,Tryz.f4.body=some cd->Y0 prog cd (Zpz 6 4 (Ext (clean Wob W))) {tmps:=args++Array.replicate (Tryz.f4.ntmps - 2) undef,defers:=[]} (clean Wob W)):
 ∃N last o w' t',runNT Tryz.prog (N+1) (Go.Conc.solo (G (Frame.enter Tryz.prog 4 args .normal) []) W) #[]=(.ended o w',t')/\runN Tryz.prog N (Go.Conc.solo (G (Frame.enter Tryz.prog 4 args .normal) []) W)= .next last/\step Tryz.prog last= .ended o w'/\
  Conc.Good Tryz.prog (λv w'=>v= .bool true/\Below W.heap.size W w') last o w' t':=by
 obtain⟨cd,Db⟩:∃cd,Tryz.f4.body=some cd:=⟨_,rfl⟩;refine Zrd (f:=4) (g:=6) (fn:=Tryz.f4) (gn:=Tryz.f6) (c:=cd) (r:=4) (E:=Ext (clean Wob W)) (Post:=λv w'=>v= .bool true/\Below W.heap.size W w') (wf (by kernel_rfl)) (by kernel_rfl) Ia (by kernel_rfl) Db (by kernel_rfl) (by rw[B1];exact P7 cd Db) (by kernel_rfl) (by kernel_rfl) (by kernel_rfl) ?_;intro lf w1 t hE hj Bl hp Cl Ce;have hB:=ZqS Cx.ok hE hj
 have Uz:∀g,g<12->Z1s w1 g=true:=λg hg=>by
  obtain⟨c,e,f,h⟩:=Z9A.1 (Af g hg);exact Z9A.2 ⟨c,e,f,(hB.block g (by omega)).trans h⟩
 have hc:∀{a:Addr}{v:Value},W.cell? a=some v->w1.cell? a=some v:=λh=>(hB.cell (World.block_lt_of_cell? _ _ h)).trans h
 have Gm:Meas w1:=λi hi=>hc (hM i hi)
 have hmo1:Most w1:=⟨hc Eb.m0,hc Eb.m1⟩;have Pj:Deb w1:=λi hi=>hc (hd i hi)
 letI:GK:=⟨Z1s w1,λg hg=>Uz g (by have:=TR hg;omega)⟩
 have hR:∀(t:Nat->Question->Nat)(v:Value)(V:World),(fun(v:Value)(_:World)=>v= .bool true) v V->(fun(v:Value)(_:World)=>v= .bool true) v (retape t V):=λ_ _ _ h=>h
 refine Zbx (P:=Tryz.prog) (fs:=Tryq.fs) (Gs:=Z1s w1) (f:=6) (tr:=0) (fn:=Tryz.f6) (R:=λv _=>v= .bool true) (k:=3) soloK fsOk hR (by kernel_rfl) ((kept_same 6 (by simp[keptList])).trans (by kernel_rfl)) (by kernel_rfl) (Zdq (by kernel_rfl)) (tmK (by simp[keptList])) (Go.Proofs.Tryv.phase82 (Z2a hR) [lf] w1) (Z8h rfl (by rw[globals4];omega)) AR.nil (λt=>(Zce (retape t (Zx w1)) (Zre t (Za5 Gm)) (Za7 t (Za6 hmo1)) (Zrq t (ZbN Pj))).mono λe V' he=>⟨_,he.1,rfl⟩) hp Cl ?_;intro v0 v V ρ t0 w' Rm hv B6 hsz' e1 e2 e3;have Rm:v0= .bool true:=Rm;subst Rm;obtain rfl:v= .bool true:=by cases hv;rfl
 refine Ce _ w' λd=>⟨rfl,?_⟩
 have Ek:Below W.heap.size w1 w':=⟨e2,e1,e3,hsz',λk hk=>B6 k (by omega)⟩;have:=hB.trans Ek;exact⟨this.os,this.tape,this.output,this.size,this.block⟩
open Go.Proofs.YthahddndgbpooaaGreatDoor (Rows.laid_internal_strconv_uint64pow10 Rows.laid_nock_arrow_errForm)
theorem pow_of_laid{W:World}(Wk:12<=W.heap.size)(h:laidMetH Tryz.prog laidL W):Pow W:=by
 obtain⟨g,t,cs,fuel,p,hg,ht,hv,hd⟩:=Z2t h (n:= "internal/strconv.uint64pow10") (d:=Rows.laid_internal_strconv_uint64pow10) (by simp[laidL]) (by kernel_rfl);obtain rfl:=YT ((show Tryz.prog.globalNamed "internal/strconv.uint64pow10" =some 4 by kernel_rfl).symm.trans hg);obtain rfl:=YT ((show(Tryz.prog.globals[4]?).map (·.type)=some 283 by kernel_rfl).symm.trans ht);obtain⟨m,e,hu⟩:=Z7v (P:=Tryz.prog) (t:=283) (by kernel_rfl);have hk:(match Tryz.prog.underlying 283 with|some (.array n e)=>(match Tryz.prog.underlying e with|some (.int k)=>decide (k= .u64)|_=>false)&&Tryz.prog.cellsOf e==1&&Tryz.prog.cellsOf 283==n|_=>false)=true:=by kernel_rfl
 rw[hu] at hk;simp only[YG,XW] at hk;obtain⟨⟨h1,h2⟩,h3⟩:=hk;have he:Tryz.prog.underlying e=some (.int .u64):=by
  split at h1
  ·rename_i k hk;rw[hk,TR h1]
  ·cases h1
 have hc:=Lib.cells_of_tab (k:= .u64) (zs:=Lib.pow10Tab) hu he h2 h3 hd;refine⟨by omega,?_⟩;show Lib.TabIs Tryp.prog W _ _ _;unfold Lib.TabIs;have hg':Tryp.prog.globalNamed "internal/strconv.uint64pow10" =some 4:=by kernel_rfl
 unfold World.var? at hv⊢;rw[hg] at hv;rw[hg',<-hc];exact hv
theorem err_of_laid{W:World}(h:laidMetH Tryz.prog laidL W):ErrF W:=by
 obtain⟨g,t,cs,fuel,p,hg,ht,hv,hd⟩:=Z2t h (n:= "nock/arrow.errForm") (d:=Rows.laid_nock_arrow_errForm) (by simp[laidL]) (by kernel_rfl);obtain rfl:=YT ((show Tryz.prog.globalNamed "nock/arrow.errForm" =some 3 by kernel_rfl).symm.trans hg);obtain rfl:=YT ((show(Tryz.prog.globals[3]?).map (·.type)=some 91 by kernel_rfl).symm.trans ht);have hk:(match Tryz.prog.underlying 91 with|some (.interface _)=>true|_=>false)=true:=by kernel_rfl
 obtain⟨ms,hi⟩:∃ms,Tryz.prog.underlying 91=some (.interface ms):=by
  split at hk
  ·exact⟨_,by assumption⟩
  ·cases hk
 obtain⟨_,u,v,Ag,_,_⟩:=iface_of_trod hi hd;exact⟨u,v,by rw[World.var?_cell hg hv 0];rw[<-Array.getElem?_toList,Ag];rfl⟩
theorem max_of_shape{W:World}(h:W.ShapedOpen Tryz.prog):MaxL W:=by
 obtain⟨cs,hc,hs,hr⟩:=h.1 7 #[.int .i64 0] 3 (by rw[globals4];decide) (by kernel_rfl);obtain⟨ts,h1,_,h2⟩:=hr (by kernel_rfl);obtain rfl:=YT ((show Tryz.prog.cellTypes Tryz.prog.depth 3=some [3] by kernel_rfl).symm.trans h1);obtain⟨u,h3,h4⟩:=h2 0 (cs[0]'(by rw[hs];decide)) (by simp);obtain rfl:3=u:=by simpa using h3
 unfold Cell.ok at h4;rw[under3] at h4;generalize hx:cs[0]'(by rw[hs];decide)=x at h4;cases x<;>first|exact h4.elim|skip
 obtain⟨rfl,_⟩:=h4;exact⟨_,by rw[Z0 hc,<-hx];simp⟩
theorem pw_of_rows{W:World}(h:∀g,g<12->Z1s W g=true):PW W:=by
 intro b c e hb;by_cases A3:b<12
 ·obtain⟨_,_,_,h1⟩:=Z9A.1 (h b A3);rw[h1] at hb;cases hb
 ·show(Tryp.prog).stepOf b=none;have hk:(Tryp.prog.funcs.all λf=>(f.body.map readies).all λl=>l.all λg=>decide (g<12))=true:=by kernel_rfl
  unfold Program.stepOf;rw[Array.findIdx?_eq_none_iff];intro f hf;have h2:=Array.all_eq_true_iff_forall_mem.1 hk f hf;cases hz:f.body.map readies with
  |none=>rfl
  |some l=>
   rw[hz] at h2;simp only[Option.all_some,YL,XG] at h2;simp only[Option.any_some];exact Bool.eq_false_iff.2 λh3=>A3 (h2 b (VH.1 h3))
end
end Go.Proofs.Tryp
