import Derived.Test.YtedkbdkbbnemlaaGreatDoorNkA
import Derived.Test.YtedkbdkbbnemlaaGreatDoorNk24
import Derived.Lib.Hide
set_option linter.all false
namespace Go.Proofs.Tryq
set_option maxRecDepth 100000
set_option maxHeartbeats 4000000
open Go Go.Nk Go.RowKit
theorem ZdG{x y:Sf}(h:nmL x=nmL y):x.nm=y.nm:=by
 have h2:x.nm.data=y.nm.data:=Array.toList_inj.1 h;cases hx:x.nm;cases hy:y.nm;rw[hx,hy] at h2;simp at h2;rw[h2]
theorem Z71{s t:ByteArray}(h:s.toList=t.toList):s=t:=by
 rw[ByteArray.toList_eq,ByteArray.toList_eq] at h;cases s;cases t;simp at h;rw[h]
theorem Z1P(a b c m:Int)(base:Option Addr)(n cap:Nat)(L:List Sf)(w:World)(A3:L.length=n)(Tk:n<=1000000)(hS:RawA w base L):
 Calls prog 26 #[.agg #[.int .i64 a,.int .i64 b,.int .i64 c,.int .i64 m,.slice base n cap]] w fun e w'=>e= .returned (.int .i64 (Zp a b c m L))/\Ext w w':=by
 have hr:∀n hi w,Calls prog 93 #[.int .i64 n,.int .i64 0,.int .i64 hi] w fun e w'=>e= .returned (.bool (okA n hi))/\w'=w:=fun n hi w=>Z4r n 0 hi w
 have E9:=fun w=>hr a 9999 w;have Dz:=fun w=>hr b 9999 w;have Ga:=fun w=>hr c 9999 w;have Ji:=fun w=>Z4r m 2 4 w
 clear hr;by_cases hR:Z2J a b c m=0
 ·have I8:okA a 9999=true/\okA b 9999=true/\okA c 9999=true/\decide (2<=m/\m<=4)=true:=by
   unfold Z2J at hR;split at hR
   ·rename_i h;simp only[YG] at h;exact⟨h.1.1.1,h.1.1.2,h.1.2,h.2⟩
   ·cases hR
  simp only[I8.1] at E9;simp only[I8.2.1] at Dz;simp only[I8.2.2.1] at Ga;simp only[I8.2.2.2] at Ji;have hF:Hid (Zp a b c m L=Zj L):=by
   show _=_;rw[Zp,firstV,if_pos hR];simp only[firstV];split
   ·rename_i h;exact h.symm
   ·rfl
  clear hR I8;by_cases h9:9<L.length
  ·have H:Hid (Zp a b c m L=2):=by show _=_;rw[hF.out,Zj,if_pos h9]
   have Lz:(9:Int)<(n:Int):=by omega
   clear h9 hF;go_enter func26,ntmps26
   go_wp2_with (first
    |(go_at_call 93;(with_reducible refine(E9 _).mono ?_);rintro e w2 ⟨rfl,rfl⟩)
    |(go_at_call 93;(with_reducible refine(Dz _).mono ?_);rintro e w2 ⟨rfl,rfl⟩)
    |(go_at_call 93;(with_reducible refine(Ga _).mono ?_);rintro e w2 ⟨rfl,rfl⟩)
    |(go_at_call 93;(with_reducible refine(Ji _).mono ?_);rintro e w2 ⟨rfl,rfl⟩))
   go_ret;exact⟨ZK (a:=2) H.out.symm,((Ext.rfl' w).alloc _).alloc _⟩
  ·have H:Hid (Zp a b c m L=shA ((L.take 0).map nmL) (L.drop 0)):=by show _=_;rw[hF.out,Zj,if_neg h9];rfl
   have Lz:(n:Int)<=9:=by omega
   clear h9 hF;go_enter func26,ntmps26
   go_wp2_with (first
    |(go_at_call 93;(with_reducible refine(E9 _).mono ?_);rintro e w2 ⟨rfl,rfl⟩)
    |(go_at_call 93;(with_reducible refine(Dz _).mono ?_);rintro e w2 ⟨rfl,rfl⟩)
    |(go_at_call 93;(with_reducible refine(Ga _).mono ?_);rintro e w2 ⟨rfl,rfl⟩)
    |(go_at_call 93;(with_reducible refine(Ji _).mono ?_);rintro e w2 ⟨rfl,rfl⟩))
   clear E9 Dz Ga Ji;have Bi:=((Ext.rfl' w).alloc (.cells #[.int .i64 a,.int .i64 b,.int .i64 c,.int .i64 m,.slice base n cap] 26)).alloc (.cells #[.int .i64 a,.int .i64 b,.int .i64 c,.int .i64 m] 23);go_loopw [4] (fun v wr=>∃i:Nat,i<=n/\v= .int .i64 i/\wr.heap[w.heap.size]? =some (.cells #[.int .i64 a,.int .i64 b,.int .i64 c,.int .i64 m,.slice base n cap] 26)/\Ext w wr/\Hid (Zp a b c m L=shA ((L.take i).map nmL) (L.drop i))) (fun v _=>n - (intOf v).toNat)
   case atStart=>exact⟨0,Nat.zero_le _,rfl,by simp only[Z3,Z2];rw[if_neg (by omega),if_pos trivial],Bi,H⟩
   case round=>
    obtain⟨i,hi,rfl,hr,hE,hH⟩:=hrel;clear Bi H;have q4:=Z0 hr 4;simp only[YC,YA,YB] at q4;have hlr:=Z5 hr;by_cases Aw:i=n
    ·subst Aw;have hz:Hid (Zp a b c m L=0):=(by show _=_;rw[hH.out,<-A3,List.drop_length];rfl);clear hH;go_wp2;go_ret;exact⟨ZK (a:=0) hz.out.symm,hE⟩
    ·have A4:i<n:=(by omega);obtain⟨x,hx⟩:∃x,L[i]? =some x:=⟨_,YH (by omega)⟩;have Ac:Hid (Zp a b c m L=if Z2d x.nm=false then 4 else if nmL x∈(L.take i).map nmL then 5 else if Z8b x=false then 1 else shA ((L.take (i+1)).map nmL) (L.drop (i+1))):=by
      show _=_;rw[hH.out,Z0b hx,shA,Z0G hx,List.map_append];rfl
     have Fx:=hS.ext hE;obtain⟨b',off,rfl,hb,⟨k0,k1,k2,k3,k4,k5,k6⟩,M0⟩:=Fx i x hx;have Fg:=fun w=>Z70 x.nm w M0
     have Cd:(0:Int)<=(i:Int):=(by omega);cases hnb:Z2d x.nm
     ·have Ax:Hid (Zp a b c m L=4):=(by show _=_;rw[Ac.out,if_pos hnb]);rw[hnb] at Fg;clear hnb Ac hH hx
      go_wp2_with (first
       |(go_at_call 94;refine(Fg _).mono ?_;rintro e w2 ⟨rfl,rfl⟩))
      go_ret;exact⟨ZK (a:=4) Ax.out.symm,hE.alloc _⟩
     ·rw[hnb] at Fg;have Ho:Hid (Zp a b c m L=if nmL x∈(L.take i).map nmL then 5 else if Z8b x=false then 1 else shA ((L.take (i+1)).map nmL) (L.drop (i+1))):=(by show _=_;rw[Ac.out,if_neg (by rw[hnb];simp)]);clear Ac hH hnb
      go_wp2_with (first
       |(go_at_call 94;refine(Fg _).mono ?_;rintro e w2 ⟨rfl,E4⟩;subst E4))
      have B4:=hE.alloc (.cells #[.string x.nm,.int .i64 x.a0,.int .i64 x.a1,.int .i64 x.b0,.int .i64 x.b1,.int .i64 x.c0,.int .i64 x.c1] 51);have Yi:(wr.alloc (.cells #[.string x.nm,.int .i64 x.a0,.int .i64 x.a1,.int .i64 x.b0,.int .i64 x.b1,.int .i64 x.c0,.int .i64 x.c1] 51)).heap[wr.heap.size]? =some (.cells #[.string x.nm,.int .i64 x.a0,.int .i64 x.a1,.int .i64 x.b0,.int .i64 x.b1,.int .i64 x.c0,.int .i64 x.c1] 51):=(by rw[Z3,if_pos rfl]);have Ml:=((Ext.rfl' wr).alloc (.cells #[.string x.nm,.int .i64 x.a0,.int .i64 x.a1,.int .i64 x.b0,.int .i64 x.b1,.int .i64 x.c0,.int .i64 x.c1] 51)).get hr;have HN:Hid (nmL x∈(L.take i).map nmL↔nmL x∈((L.take i).drop 0).map nmL):=Iff.rfl;clear Fg k0 k1 k2 k3 k4 k5 k6 hr q4;have Oh:=Fx.ext ((Ext.rfl' wr).alloc (.cells #[.string x.nm,.int .i64 x.a0,.int .i64 x.a1,.int .i64 x.b0,.int .i64 x.b1,.int .i64 x.c0,.int .i64 x.c1] 51));generalize World.alloc wr _=V at Oh B4 Yi Ml⊢;obtain⟨wo,rfl⟩:∃wo:World,wo=wr:=⟨_,rfl⟩;go_loopw [6] (fun v wi=>∃k:Nat,k<=i/\v= .int .i64 k/\Ext V wi/\Hid (nmL x∈(L.take i).map nmL↔nmL x∈((L.take i).drop k).map nmL)) (fun v _=>i - (intOf v).toNat)
      case atStart=>exact⟨0,Nat.zero_le _,rfl,Ext.rfl' V,HN⟩
      case round=>
       obtain⟨k,hk,rfl,Ld,Qd⟩:=hrel;clear HN;have hrk:=Ld.get Ml;have Mm:=Ld.get Yi;have q4:=Z0 hrk 4;simp only[YC,YA,YB] at q4;by_cases Fi:k=i
       ·subst Fi;have Ku:¬nmL x∈(L.take k).map nmL:=(by rw[Qd.out,List.drop_of_length_le (by rw[List.length_take];omega)];simp);have Fu:Hid (Zp a b c m L=if Z8b x=false then 1 else shA ((L.take (k+1)).map nmL) (L.drop (k+1))):=(by show _=_;rw[Ho.out,if_neg Ku]);have y1:=Z0 Mm 1;have y2:=Z0 Mm 2;have y3:=Z0 Mm 3;have y4:=Z0 Mm 4;have y5:=Z0 Mm 5;have y6:=Z0 Mm 6;simp only[YC,YA,YB] at y1 y2 y3 y4 y5 y6;have G7:∀w,Calls prog 95 #[.agg #[.int .i64 x.a0,.int .i64 x.a1],.int .i64 0,.int .i64 9999] w fun e w'=>e= .returned (.bool (ZF (spA x 0)))/\Ext w w':=fun w=>Z2e x.a0 x.a1 0 9999 w
        have D9:∀w,Calls prog 95 #[.agg #[.int .i64 x.b0,.int .i64 x.b1],.int .i64 0,.int .i64 9999] w fun e w'=>e= .returned (.bool (ZF (spA x 1)))/\Ext w w':=fun w=>Z2e x.b0 x.b1 0 9999 w
        have Nc:∀w,Calls prog 95 #[.agg #[.int .i64 x.c0,.int .i64 x.c1],.int .i64 0,.int .i64 9999] w fun e w'=>e= .returned (.bool (ZF (spA x 2)))/\Ext w w':=fun w=>Z2e x.c0 x.c1 0 9999 w
        have B5:Z8b x=(ZF (spA x 0)&&ZF (spA x 1)&&ZF (spA x 2)):=rfl;have Cy:=B4.trans Ld;have Aj:=Mm;have Dg:=hrk;clear Ho Qd Ku hx Yi Ld;cases h1:ZF (spA x 0) with
        |false=>
         simp only[h1] at G7;have Ax:Hid (Zp a b c m L=1):=(by show _=_;rw[Fu.out,if_pos (by rw[B5,h1];simp)]);clear Fu B5
         go_wp2_with (first
          |(go_at_call 95;(with_reducible refine(G7 _).mono ?_);rintro e w2 ⟨rfl,A8⟩;replace Cy:=Cy.trans A8;replace Aj:=A8.get Aj;replace Dg:=A8.get Dg;clear A8 y1 y2 y3 y4 y5 y6;have y1:=Z0 Aj 1;have y2:=Z0 Aj 2;have y3:=Z0 Aj 3;have y4:=Z0 Aj 4;have y5:=Z0 Aj 5;have y6:=Z0 Aj 6;simp only[YC,YA,YB] at y1 y2 y3 y4 y5 y6)
          |(go_at_call 95;(with_reducible refine(D9 _).mono ?_);rintro e w2 ⟨rfl,A8⟩;replace Cy:=Cy.trans A8;replace Aj:=A8.get Aj;replace Dg:=A8.get Dg;clear A8 y1 y2 y3 y4 y5 y6;have y1:=Z0 Aj 1;have y2:=Z0 Aj 2;have y3:=Z0 Aj 3;have y4:=Z0 Aj 4;have y5:=Z0 Aj 5;have y6:=Z0 Aj 6;simp only[YC,YA,YB] at y1 y2 y3 y4 y5 y6)
          |(go_at_call 95;(with_reducible refine(Nc _).mono ?_);rintro e w2 ⟨rfl,A8⟩;replace Cy:=Cy.trans A8;replace Aj:=A8.get Aj;replace Dg:=A8.get Dg;clear A8 y1 y2 y3 y4 y5 y6;have y1:=Z0 Aj 1;have y2:=Z0 Aj 2;have y3:=Z0 Aj 3;have y4:=Z0 Aj 4;have y5:=Z0 Aj 5;have y6:=Z0 Aj 6;simp only[YC,YA,YB] at y1 y2 y3 y4 y5 y6))
         go_ret;exact⟨ZK (a:=1) Ax.out.symm,Cy⟩
        |true=>
         simp only[h1] at G7;cases h2:ZF (spA x 1) with
         |false=>
          simp only[h2] at D9;have Ax:Hid (Zp a b c m L=1):=(by show _=_;rw[Fu.out,if_pos (by rw[B5,h1,h2];simp)]);clear Fu B5
          go_wp2_with (first
           |(go_at_call 95;(with_reducible refine(G7 _).mono ?_);rintro e w2 ⟨rfl,A8⟩;replace Cy:=Cy.trans A8;replace Aj:=A8.get Aj;replace Dg:=A8.get Dg;clear A8 y1 y2 y3 y4 y5 y6;have y1:=Z0 Aj 1;have y2:=Z0 Aj 2;have y3:=Z0 Aj 3;have y4:=Z0 Aj 4;have y5:=Z0 Aj 5;have y6:=Z0 Aj 6;simp only[YC,YA,YB] at y1 y2 y3 y4 y5 y6)
           |(go_at_call 95;(with_reducible refine(D9 _).mono ?_);rintro e w2 ⟨rfl,A8⟩;replace Cy:=Cy.trans A8;replace Aj:=A8.get Aj;replace Dg:=A8.get Dg;clear A8 y1 y2 y3 y4 y5 y6;have y1:=Z0 Aj 1;have y2:=Z0 Aj 2;have y3:=Z0 Aj 3;have y4:=Z0 Aj 4;have y5:=Z0 Aj 5;have y6:=Z0 Aj 6;simp only[YC,YA,YB] at y1 y2 y3 y4 y5 y6)
           |(go_at_call 95;(with_reducible refine(Nc _).mono ?_);rintro e w2 ⟨rfl,A8⟩;replace Cy:=Cy.trans A8;replace Aj:=A8.get Aj;replace Dg:=A8.get Dg;clear A8 y1 y2 y3 y4 y5 y6;have y1:=Z0 Aj 1;have y2:=Z0 Aj 2;have y3:=Z0 Aj 3;have y4:=Z0 Aj 4;have y5:=Z0 Aj 5;have y6:=Z0 Aj 6;simp only[YC,YA,YB] at y1 y2 y3 y4 y5 y6))
          go_ret;exact⟨ZK (a:=1) Ax.out.symm,Cy⟩
         |true=>
          simp only[h2] at D9;cases h3:ZF (spA x 2) with
          |false=>
           simp only[h3] at Nc;have Ax:Hid (Zp a b c m L=1):=(by show _=_;rw[Fu.out,if_pos (by rw[B5,h1,h2,h3];simp)]);clear Fu B5
           go_wp2_with (first
            |(go_at_call 95;(with_reducible refine(G7 _).mono ?_);rintro e w2 ⟨rfl,A8⟩;replace Cy:=Cy.trans A8;replace Aj:=A8.get Aj;replace Dg:=A8.get Dg;clear A8 y1 y2 y3 y4 y5 y6;have y1:=Z0 Aj 1;have y2:=Z0 Aj 2;have y3:=Z0 Aj 3;have y4:=Z0 Aj 4;have y5:=Z0 Aj 5;have y6:=Z0 Aj 6;simp only[YC,YA,YB] at y1 y2 y3 y4 y5 y6)
            |(go_at_call 95;(with_reducible refine(D9 _).mono ?_);rintro e w2 ⟨rfl,A8⟩;replace Cy:=Cy.trans A8;replace Aj:=A8.get Aj;replace Dg:=A8.get Dg;clear A8 y1 y2 y3 y4 y5 y6;have y1:=Z0 Aj 1;have y2:=Z0 Aj 2;have y3:=Z0 Aj 3;have y4:=Z0 Aj 4;have y5:=Z0 Aj 5;have y6:=Z0 Aj 6;simp only[YC,YA,YB] at y1 y2 y3 y4 y5 y6)
            |(go_at_call 95;(with_reducible refine(Nc _).mono ?_);rintro e w2 ⟨rfl,A8⟩;replace Cy:=Cy.trans A8;replace Aj:=A8.get Aj;replace Dg:=A8.get Dg;clear A8 y1 y2 y3 y4 y5 y6;have y1:=Z0 Aj 1;have y2:=Z0 Aj 2;have y3:=Z0 Aj 3;have y4:=Z0 Aj 4;have y5:=Z0 Aj 5;have y6:=Z0 Aj 6;simp only[YC,YA,YB] at y1 y2 y3 y4 y5 y6))
           go_ret;exact⟨ZK (a:=1) Ax.out.symm,Cy⟩
          |true=>
           simp only[h3] at Nc;have Ax:Hid (Zp a b c m L=shA ((L.take (k+1)).map nmL) (L.drop (k+1))):=(by show _=_;rw[Fu.out,if_neg (by rw[B5,h1,h2,h3];simp)]);clear Fu B5
           go_wp2_with (first
            |(go_at_call 95;(with_reducible refine(G7 _).mono ?_);rintro e w2 ⟨rfl,A8⟩;replace Cy:=Cy.trans A8;replace Aj:=A8.get Aj;replace Dg:=A8.get Dg;clear A8 y1 y2 y3 y4 y5 y6;have y1:=Z0 Aj 1;have y2:=Z0 Aj 2;have y3:=Z0 Aj 3;have y4:=Z0 Aj 4;have y5:=Z0 Aj 5;have y6:=Z0 Aj 6;simp only[YC,YA,YB] at y1 y2 y3 y4 y5 y6)
            |(go_at_call 95;(with_reducible refine(D9 _).mono ?_);rintro e w2 ⟨rfl,A8⟩;replace Cy:=Cy.trans A8;replace Aj:=A8.get Aj;replace Dg:=A8.get Dg;clear A8 y1 y2 y3 y4 y5 y6;have y1:=Z0 Aj 1;have y2:=Z0 Aj 2;have y3:=Z0 Aj 3;have y4:=Z0 Aj 4;have y5:=Z0 Aj 5;have y6:=Z0 Aj 6;simp only[YC,YA,YB] at y1 y2 y3 y4 y5 y6)
            |(go_at_call 95;(with_reducible refine(Nc _).mono ?_);rintro e w2 ⟨rfl,A8⟩;replace Cy:=Cy.trans A8;replace Aj:=A8.get Aj;replace Dg:=A8.get Dg;clear A8 y1 y2 y3 y4 y5 y6;have y1:=Z0 Aj 1;have y2:=Z0 Aj 2;have y3:=Z0 Aj 3;have y4:=Z0 Aj 4;have y5:=Z0 Aj 5;have y6:=Z0 Aj 6;simp only[YC,YA,YB] at y1 y2 y3 y4 y5 y6))
           exact⟨⟨k+1,by omega,by push_cast;rfl,Dg,Cy,Ax⟩,by simp[intOf];omega⟩
       ·have Yj:k<i:=(by omega);obtain⟨y,hy⟩:∃y,L[k]? =some y:=⟨_,YH (by omega)⟩;obtain⟨b2,off2,H9,Ao,hky,hnmy⟩:=(Oh.ext Ld) k y hy;obtain⟨rfl,rfl⟩:b'=b2/\off=off2:=(by simpa using H9);have Be:=hky.1;have B3:=Z0 Mm 0;simp only[YC,YA] at B3;have Ck:¬n<=k:=(by omega);have F1:nmL x∈((L.take i).drop k).map nmL↔nmL x=nmL y\/nmL x∈((L.take i).drop (k+1)).map nmL:=by
         have hty:(L.take i)[k]? =some y:=(by rw[List.getElem?_take,if_pos Yj];exact hy);rw[Z0b hty,List.map_cons,List.mem_cons]
        go_wp2_with fail
        have gz0:=Zet q4;have gz1:=Zet Be;have gz2:=Zet B3;refine ZeG 9 (by kernel_rfl) ?_;refine ZeB [0,1,2,3,4,5,6,7,8] (by kernel_rfl) (by kernel_rfl) ?_;simp only[ZeD,YB,YA,YK,YJ]
        repeat (go_big_quiet_step (fail))
        refine wpQuiet_nil ?_;refine Zf6 (by kernel_rfl) (fun W hW=> ?_);have Ba:=hW;clear gz0 gz1 gz2;have Tl:=Ld.trans Ba;by_cases C5:nmL x=nmL y
        ·have he:(y.nm.toList==x.nm.toList)=true:=(by simp[ZdG C5]);have Ax:Hid (Zp a b c m L=5):=(by show _=_;rw[Ho.out,if_pos (Qd.out.2 (F1.2 (.inl C5)))]);rw[he];clear he Ho Qd F1;go_wp2;go_ret;exact⟨ZK (a:=5) Ax.out.symm,B4.trans Tl⟩
        ·have he:(y.nm.toList==x.nm.toList)=false:=by
          rw[beq_eq_false_iff_ne];intro h;exact C5 (by rw[nmL,nmL,(Z71 h).symm])
         have Py:Hid (nmL x∈(L.take i).map nmL↔nmL x∈((L.take i).drop (k+1)).map nmL):=(by show _↔_;rw[Qd.out,F1];simp[C5]);rw[he];clear he Qd F1;go_wp2;go_roundw
         case rel=>exact⟨k+1,by omega,by push_cast;rfl,Tl,Py⟩
         case measure=>simp[intOf];omega
 ·have Pk:Z2J a b c m=1:=by
   unfold Z2J at hR⊢;split at hR
   ·exact absurd rfl hR
   ·rw[if_neg (by assumption)]
  have hF:Hid (Zp a b c m L=1):=by show _=_;rw[Zp,firstV,if_neg hR,Pk]
  have I8:(okA a 9999&&okA b 9999&&okA c 9999&&decide (2<=m/\m<=4))=false:=by
   unfold Z2J at hR;split at hR
   ·exact absurd rfl hR
   ·rename_i h;simpa using h
  clear hR Pk;cases h1:okA a 9999 with
  |false=>
   simp only[h1] at E9;clear I8 h1;go_enter func26,ntmps26
   go_wp2_with (first
    |(go_at_call 93;(with_reducible refine(E9 _).mono ?_);rintro e w2 ⟨rfl,rfl⟩)
    |(go_at_call 93;(with_reducible refine(Dz _).mono ?_);rintro e w2 ⟨rfl,rfl⟩)
    |(go_at_call 93;(with_reducible refine(Ga _).mono ?_);rintro e w2 ⟨rfl,rfl⟩)
    |(go_at_call 93;(with_reducible refine(Ji _).mono ?_);rintro e w2 ⟨rfl,rfl⟩))
   go_ret;exact⟨ZK (a:=1) hF.out.symm,((Ext.rfl' w).alloc _).alloc _⟩
  |true=>
   simp only[h1] at E9;cases h2:okA b 9999 with
   |false=>
    simp only[h2] at Dz;clear I8 h1 h2;go_enter func26,ntmps26
    go_wp2_with (first
     |(go_at_call 93;(with_reducible refine(E9 _).mono ?_);rintro e w2 ⟨rfl,rfl⟩)
     |(go_at_call 93;(with_reducible refine(Dz _).mono ?_);rintro e w2 ⟨rfl,rfl⟩)
     |(go_at_call 93;(with_reducible refine(Ga _).mono ?_);rintro e w2 ⟨rfl,rfl⟩)
     |(go_at_call 93;(with_reducible refine(Ji _).mono ?_);rintro e w2 ⟨rfl,rfl⟩))
    go_ret;exact⟨ZK (a:=1) hF.out.symm,((Ext.rfl' w).alloc _).alloc _⟩
   |true=>
    simp only[h2] at Dz;cases h3:okA c 9999 with
    |false=>
     simp only[h3] at Ga;clear I8 h1 h2 h3;go_enter func26,ntmps26
     go_wp2_with (first
      |(go_at_call 93;(with_reducible refine(E9 _).mono ?_);rintro e w2 ⟨rfl,rfl⟩)
      |(go_at_call 93;(with_reducible refine(Dz _).mono ?_);rintro e w2 ⟨rfl,rfl⟩)
      |(go_at_call 93;(with_reducible refine(Ga _).mono ?_);rintro e w2 ⟨rfl,rfl⟩)
      |(go_at_call 93;(with_reducible refine(Ji _).mono ?_);rintro e w2 ⟨rfl,rfl⟩))
     go_ret;exact⟨ZK (a:=1) hF.out.symm,((Ext.rfl' w).alloc _).alloc _⟩
    |true=>
     simp only[h3] at Ga;have h4:decide (2<=m/\m<=4)=false:=(by rw[h1,h2,h3] at I8;simpa using I8);simp only[h4] at Ji;clear I8 h1 h2 h3 h4;go_enter func26,ntmps26
     go_wp2_with (first
      |(go_at_call 93;(with_reducible refine(E9 _).mono ?_);rintro e w2 ⟨rfl,rfl⟩)
      |(go_at_call 93;(with_reducible refine(Dz _).mono ?_);rintro e w2 ⟨rfl,rfl⟩)
      |(go_at_call 93;(with_reducible refine(Ga _).mono ?_);rintro e w2 ⟨rfl,rfl⟩)
      |(go_at_call 93;(with_reducible refine(Ji _).mono ?_);rintro e w2 ⟨rfl,rfl⟩))
     go_ret;exact⟨ZK (a:=1) hF.out.symm,((Ext.rfl' w).alloc _).alloc _⟩
end Go.Proofs.Tryq
namespace Go.Proofs.Tryq
open Go Go.Nk Go.RowKit
set_option linter.all false
theorem Zib{P:Program}{ops:Array Oper}{R:Exit->Act->World->Prop}{t:Nat}{l:List Nat}(k:Nat){o:Oper}{v:Value}{a:Act}{w:World}{f:FuncId}{args:Array Value}(hs:okT ops t=true)(hi:ops[k]? =some o)(hf:Zil ops t l k=true)(hw:Region.wanted o (yielded ops a.tmps)=true)
 (hr:∀W,(execOp a.eval o).run P W= .ok (.enter f args) W)(hc:∀W,Ext w W->Calls P f args W fun e W'=>e= .returned v/\Ext W W')(h:LX P ops R t (k::l) (a.put o.dst v) w):LX P ops R t l a w:=
 Zim hs hi hf (.inl ⟨hw,fun W hW=>by unfold YV;rw[hr W];exact⟨Ext.rfl' W,hc W hW⟩⟩) h
theorem Zl5{P:Program}{ops:Array Oper}{R:Exit->Act->World->Prop}{t:Nat}{l:List Nat}(k:Nat){o:Oper}{v:Value}{a:Act}{w:World}(hs:okT ops t=true)(hi:ops[k]? =some o)(hf:Zil ops t l k=true)(hw:Region.wanted o (yielded ops a.tmps)=true)
 (hr:∀W,(execOp a.eval o).run P W= .ok (.value v) W)(h:LX P ops R t (k::l) (a.put o.dst v) w):LX P ops R t l a w:=
 Zim hs hi hf (.inl ⟨hw,fun W hW=>by unfold YV;rw[hr W];exact⟨rfl,Ext.rfl' W⟩⟩) h
def chooseR:List Int->List (List Int)
 |[]=>[[]]
 |x::t=>[]::((chooseR t).map (x::·)++(chooseR t).tail)
theorem chooseR_head:∀l,chooseR l=[]::(chooseR l).tail
 |[]=>rfl
 |_::_=>rfl
theorem chooseR_ne:∀(l:List Int)(c:List Int),c∈(chooseR l).tail->c≠[]
 |[],c,h=>by cases h
 |x::t,c,h=>by
  rcases List.mem_append.1 (show c∈(chooseR t).map (x::·)++(chooseR t).tail from h) with h|h
  ·obtain⟨y,_,rfl⟩:=List.mem_map.1 h;simp
  ·exact chooseR_ne t c h
theorem ZgF(s:List Int)(p:List Int->Bool)(hp:p []=true):(chooseR s).filter (fun c=>decide (c.length=0)&&p c)=[[]]:=by
 rw[chooseR_head,List.filter_cons_of_pos (by simp[hp]),List.filter_eq_nil_iff.2];intro c hc;have:=chooseR_ne s c hc;simp[this]
theorem ZgI(s:List Int)(f:Nat)(p:List Int->Bool):(chooseR s).filter (fun c=>decide (c.length=f+1)&&p c)=(chooseR s).tail.filter (fun c=>decide (c.length=f+1)&&p c):=by
 conv=>lhs;rw[chooseR_head]
 rw[List.filter_cons_of_neg (by simp)]
theorem Zey{A:List Ap}:Zr A=1↔A=[]:=by
 unfold Zr;cases A with
 |nil=>simp
 |cons x t=>
  constructor
  ·intro h;split at h
   ·cases h
   ·simp at h
  ·intro h;cases h
theorem ZgH(a b c:Int)(L:List Sf):∀(x y:List Int),apA a b c L (x++y)=[]->apA a b c L x=[]
 |[],_,_=>rfl
 |p::t,y,h=>by
  have h:apR a b c L p (t++y)++apA a b c L (t++y)=[]:=h;obtain⟨h1,h2⟩:=List.append_eq_nil_iff.1 h;rw[apR,List.flatMap_append] at h1;show apR a b c L p t++apA a b c L t=[];rw[ZgH a b c L t y h2,List.append_nil];exact(List.append_eq_nil_iff.1 h1).1
def ZeS(n:Nat)(out:Nat->Bool)(i:Nat):List Int:=((List.range' i (n - i)).filter fun k=> !out k).map fun(k:Nat)=>(k:Int)
def ZgO(a b c:Int)(L:List Sf)(m:Nat)(s:List Int):List (List Int):=(chooseR s).filter fun l=>decide (l.length=m)&&decide (Zr (apA a b c L l)=1)
theorem ZgJ(a b c:Int)(L:List Sf)(n:Nat)(out:Nat->Bool):∀(d i:Nat),n - i=d->∀(f:Nat)(l:List Int),Zr (apA a b c L l)=1->
 Zt a b c L n out f l i=((chooseR (ZeS n out i)).filter fun s=>decide (s.length=f)&&decide (Zr (apA a b c L (l++s))=1)).map (l++·):=by
 intro d
 induction d with
 |zero=>
  intro i hd f l hl;cases f with
  |zero=>rw[ZgF _ _ (by simpa using hl)];simp[Zt]
  |succ f=>simp[Zt,ZeS,hd,chooseR]
 |succ d ih=>
  intro i hd f l hl;cases f with
  |zero=>rw[ZgF _ _ (by simpa using hl)];simp[Zt]
  |succ f=>
   have hi:i<n:=by omega
   have ih2:=ih (i+1) (by omega);have e1:Zt a b c L n out (f+1) l i=(if out i=false/\Zr (apA a b c L (l++[(i:Int)]))=1 then Zt a b c L n out f (l++[(i:Int)]) (i+1) else[])++Zt a b c L n out (f+1) l (i+1):=by
    rw[Zt,Z61 hi,List.flatMap_cons];rfl
   rw[e1,ih2 (f+1) l hl];cases ho:out i with
   |true=>
    have e2:ZeS n out i=ZeS n out (i+1):=(by simp[ZeS,Z61 hi,ho]);rw[e2];simp
   |false=>
    have e2:ZeS n out i=(i:Int)::ZeS n out (i+1):=(by simp[ZeS,Z61 hi,ho]);rw[e2,chooseR,List.filter_cons_of_neg (by simp),List.filter_append,List.map_append,ZgI,List.filter_map,List.map_map];congr 1;by_cases hm:Zr (apA a b c L (l++[(i:Int)]))=1
    ·rw[if_pos ⟨rfl,hm⟩,ih2 f _ hm];have h':∀s:List Int,l++(i:Int)::s=l++[(i:Int)]++s:=fun s=>by simp
     have e1:(fun s:List Int=>l++[(i:Int)]++s)=((fun x=>l++x)∘fun x=>(i:Int)::x):=funext fun s=>(h' s).symm
     have e2:(fun s:List Int=>decide (s.length=f)&&decide (Zr (apA a b c L (l++[(i:Int)]++s))=1))=((fun s:List Int=>decide (s.length=f+1)&&decide (Zr (apA a b c L (l++s))=1))∘fun x=>(i:Int)::x):=funext fun s=>by
      show _=(decide (((i:Int)::s).length=f+1)&&decide (Zr (apA a b c L (l++(i:Int)::s))=1));rw[h' s,YP];congr 1;exact decide_eq_decide.2 (by omega)
     rw[e2];exact congrArg (fun g=>List.map g _) e1
    ·rw[if_neg (fun h=>hm h.2),List.filter_eq_nil_iff.2,List.map_nil];intro s _;simp only[Function.comp_def,YG,decide_eq_true_eq,not_and];intro _ h;have h':l++(i:Int)::s=l++[(i:Int)]++s:=(by simp);rw[h'] at h;exact hm (Zey.2 (ZgH a b c L _ _ (Zey.1 h)))
theorem Zh0(a b c:Int)(L:List Sf)(n m:Nat)(out:Nat->Bool):Zt a b c L n out m [] 0=ZgO a b c L m (ZeS n out 0):=by
 rw[ZgJ a b c L n out n 0 rfl m [] (by simp[apA,Zr])];simp[ZgO]
def ZQ(s t:List Int):Bool:=s.any fun x=>t.contains x
def shareL:List (List Int)->List (List Int)->List Int->List (List Int)
 |best,[],_=>best
 |best,s::t,taken=>if ZQ s taken then shareL best t taken else shareL (if best.length<(shareL [] t (taken++s)).length+1 then s::shareL [] t (taken++s) else best) t taken
theorem Zhn(a b c:List (List Int)):Z0q (Z0q a b) c=Z0q a (Z0q b c):=by
 unfold Z0q;split<;>split<;>(try split)<;>first|rfl|omega|skip
theorem shareL_best:∀(t:List (List Int))(best:List (List Int))(taken:List Int),shareL best t taken=Z0q best (shareL [] t taken)
 |[],best,taken=>by simp[shareL,Z0q]
 |s::t,best,taken=>by
  rw[shareL,shareL];split
  ·exact shareL_best t best taken
  ·rw[shareL_best t,shareL_best t (if([]:List (List Int)).length<_ then _ else _)];rw[<-Zhn];congr 1
theorem Zhc{taken:List Int}:∀{B:List (List Int)}{best R:List (List Int)},(∀l∈B,ZQ l taken=true)->shareL best (B++R) taken=shareL best R taken
 |[],_,_,_=>rfl
 |l::B,best,R,h=>by
  rw[YK,shareL,if_pos (h l YY)];exact Zhc fun l' hl'=>h l' (YW _ hl')
theorem Zht{n i:Nat}:∀{l:List Int}{used:Nat->Bool}{taken:List Int},(∀j,i<=j->j<n->(used j=true↔(j:Int)∈taken))->(∀p∈l,(i:Int)<=p/\p<n)->l.Pairwise (·<·)->
 (ZQ l taken=true/\take1 used l=none)\/(ZQ l taken=false/\∃now,take1 used l=some now/\∀j,i<=j->j<n->(now j=true↔(j:Int)∈taken++l))
 |[],used,taken,h,_,_=> .inr ⟨rfl,used,rfl,by simpa using h⟩
 |p::t,used,taken,h,hl,hp=>by
  obtain⟨q,rfl⟩:=Int.eq_ofNat_of_zero_le (show 0<=p by have:=(hl p YY).1;omega);have hq:=hl q YY;have hqu:=h q (by omega) (by omega);by_cases hu:used q=true
  ·exact .inl ⟨by simp[ZQ,hqu.1 hu],by rw[take1,if_pos (by simpa using hu)]⟩
  ·have Hy:¬(q:Int)∈taken:=fun h=>hu (hqu.2 h)
   have h2:∀j,i<=j->j<n->((used j||j==q)=true↔(j:Int)∈taken++[(q:Int)]):=by
    intro j h1 h3;simp only[Bool.or_eq_true,List.mem_append,List.mem_singleton,h j h1 h3,beq_iff_eq];exact or_congr Iff.rfl (by omega)
   have hc:ZQ t (taken++[(q:Int)])=ZQ t taken:=by
    unfold ZQ;rw[Bool.eq_iff_iff];simp only[List.any_eq_true,List.contains_iff_mem,List.mem_append,List.mem_singleton];constructor
    ·rintro⟨x,hx,h|rfl⟩
     ·exact⟨x,hx,h⟩
     ·exact absurd (List.rel_of_pairwise_cons hp hx) (by omega)
    ·rintro⟨x,hx,h⟩;exact⟨x,hx,.inl h⟩
   have Dq:ZQ ((q:Int)::t) taken=ZQ t taken:=by simp[ZQ,Hy]
   have e:take1 used ((q:Int)::t)=take1 (fun j=>used j||j==q) t:=by rw[take1,if_neg (by simpa using hu)];rfl
   rw[Dq,e];rcases Zht h2 (fun p hp=>hl p (YW _ hp)) (List.Pairwise.of_cons hp) with⟨a1,a2⟩|⟨a1,now,a2,a3⟩
   ·exact .inl ⟨by rw[<-hc];exact a1,a2⟩
   ·exact .inr ⟨by rw[<-hc];exact a1,now,a2,fun j h1 h3=>by rw[a3 j h1 h3];simp⟩
def Zhf(T:List (List Int))(i:Nat):List (List Int):=T.filter fun l=>decide ((i:Int)<=l.headD (-1))
structure Sets(T:List (List Int))(n:Nat):Prop where
 asc:∀l∈T,l.Pairwise (·<·)
 mem:∀l∈T,∀p∈l,0<=p/\p<(n:Int)
 ne:∀l∈T,l≠[]
 ord:T.Pairwise fun l l'=>l.headD (-1)<=l'.headD (-1)
theorem Zhh{i:Nat}:∀{T:List (List Int)},(∀l∈T,l≠[])->T.Pairwise (fun l l'=>l.headD (-1)<=l'.headD (-1))->Zhf T i=byL T i++Zhf T (i+1)
 |[],_,_=>rfl
 |l::T,A9,ho=>by
  have ih:=Zhh (i:=i) (T:=T) (fun l hl=>A9 l (YW _ hl)) (List.Pairwise.of_cons ho);obtain⟨x,t,rfl⟩:∃x t,l=x::t:=by
   cases l with
   |nil=>exact absurd rfl (A9 _ YY)
   |cons x t=>exact⟨x,t,rfl⟩
  rcases Int.lt_trichotomy x (i:Int) with hx|hx|hx
  ·simp only[Zhf,byL] at ih⊢;rw[List.filter_cons_of_neg (by simp;omega),List.filter_cons_of_neg (by simp;omega),List.filter_cons_of_neg (by simp;omega)];exact ih
  ·subst hx;simp only[Zhf,byL] at ih⊢;rw[List.filter_cons_of_pos (by simp),List.filter_cons_of_pos (by simp),List.filter_cons_of_neg (by simp;omega),ih,YK]
  ·have hb:byL T i=[]:=by
    rw[byL,List.filter_eq_nil_iff];intro l' hl';have h1:=List.rel_of_pairwise_cons ho hl';cases l' with
    |nil=>simp
    |cons y t'=>simp at h1⊢;omega
   rw[hb,YJ] at ih;have Ao:byL ((x::t)::T) i=[]:=by
    rw[byL,List.filter_cons_of_neg (by simp;omega)];exact hb
   rw[Ao,YJ];simp only[Zhf] at ih⊢;rw[List.filter_cons_of_pos (by simp;omega),List.filter_cons_of_pos (by simp;omega),ih]
theorem Zh9{n d i:Nat}{T R:List (List Int)}{used:Nat->Bool}{taken:List Int}(hu:∀j,i<=j->j<n->(used j=true↔(j:Int)∈taken))
 (ih:∀used taken,(∀j,i+1<=j->j<n->(used j=true↔(j:Int)∈taken))->Zk T d (i+1) used=shareL [] R taken):
 ∀{B:List (List Int)}{m:List (List Int)},(∀l∈B,l.Pairwise (·<·)/\(∀p∈l,(i:Int)<=p/\p<n)/\(i:Int)∈l)->shareL m (B++R) taken=shareL (B.foldl (ZL used (Zk T d (i+1))) m) R taken
 |[],_,_=>rfl
 |l::B,m,hB=>by
  obtain⟨h1,h2,h3⟩:=hB l YY;have hB':=fun l' hl'=>hB l' (YW _ hl')
  rw[YK,shareL,List.foldl_cons];rcases Zht hu h2 h1 with⟨a1,a2⟩|⟨a1,now,a2,a3⟩
  ·rw[if_pos a1,Zh9 hu ih hB'];have:ZL used (Zk T d (i+1)) m l=m:=by simp only[ZL,a2]
   rw[this]
  ·rw[if_neg (by rw[a1];decide)]
   have Tn:shareL [] (B++R) (taken++l)=shareL [] R (taken++l):=Zhc fun l' hl'=>by
    unfold ZQ;rw[List.any_eq_true];exact⟨i,(hB' l' hl').2.2,by simp[h3]⟩
   rw[Tn,Zh9 hu ih hB',<-ih now (taken++l) (fun j Yk G8=>a3 j (by omega) G8)];have:ZL used (Zk T d (i+1)) m l=Z0q m (l::Zk T d (i+1) now):=by simp only[ZL,a2]
   rw[this];rfl
theorem Zh6{T:List (List Int)}{n:Nat}(hT:Sets T n):∀(d i:Nat)(used:Nat->Bool)(taken:List Int),i+d=n->(∀j,i<=j->j<n->(used j=true↔(j:Int)∈taken))->Zk T d i used=shareL [] (Zhf T i) taken
 |0,i,used,taken,hd,hu=>by
  have:Zhf T i=[]:=by
   rw[Zhf,List.filter_eq_nil_iff];intro l hl;cases l with
   |nil=>simp;omega
   |cons x t=>
    have:=(hT.mem _ hl x YY).2;simp;omega
  rw[this];rfl
 |d+1,i,used,taken,hd,hu=>by
  have hu':∀j,i+1<=j->j<n->(used j=true↔(j:Int)∈taken):=fun j h1 h2=>hu j (by omega) h2
  have R3:Z62 T:=by
   intro l hl h hh p hp;cases l with
   |nil=>cases hp
   |cons x t=>
    cases hh;rcases List.mem_cons.1 hp with rfl|hp
    ·exact Int.le_refl _
    ·exact Int.le_of_lt (List.rel_of_pairwise_cons (hT.asc _ hl) hp)
  rw[Zhh hT.ne hT.ord,Zh9 (B:=byL T i) hu (fun used taken h=>Zh6 hT d (i+1) used taken (by omega) h),shareL_best,<-Zh6 hT d (i+1) used taken (by omega) hu']
  ·rfl
  ·intro l hl;obtain⟨b1,t,rfl⟩:=Z6Q R3 hl;have hm:=(List.mem_filter.1 hl).1;exact⟨hT.asc _ hm,fun p hp=>⟨b1 p hp,(hT.mem _ hm p hp).2⟩,YY⟩
theorem Zhy{T:List (List Int)}{n:Nat}(hT:Sets T n):Zhf T 0=T:=by
 rw[Zhf,List.filter_eq_self];intro l hl;cases l with
 |nil=>exact absurd rfl (hT.ne _ hl)
 |cons x t=>
  have:=(hT.mem _ hl x YY).1;simpa using this
theorem ZhM{T:List (List Int)}{n:Nat}(hT:Sets T n)(used:Nat->Bool)(taken:List Int)(hu:∀j,j<n->(used j=true↔(j:Int)∈taken)):Zk T n 0 used=shareL [] T taken:=by
 rw[Zh6 hT n 0 used taken (by omega) fun j _ h=>hu j h,Zhy hT]
theorem chooseR_mem:∀(s c:List Int),c∈chooseR s->List.Sublist c s
 |[],c,h=>by cases List.mem_singleton.1 h;exact List.Sublist.refl _
 |x::t,c,h=>by
  rcases List.mem_cons.1 h with rfl|h
  ·exact List.nil_sublist _
  ·rcases List.mem_append.1 h with h|h
   ·obtain⟨y,hy,rfl⟩:=List.mem_map.1 h;exact(chooseR_mem t y hy).cons_cons x
   ·exact(chooseR_mem t c (List.mem_of_mem_tail h)).cons x
theorem mem_chooseR:∀(s c:List Int),List.Sublist c s->c∈chooseR s
 |[],c,h=>by rw[List.sublist_nil.1 h];simp[chooseR]
 |x::t,c,h=>by
  cases c with
  |nil=>exact YY
  |cons y c=>
   rw[chooseR];refine YW _ (List.mem_append.2 ?_);cases h with
   |cons _ h=>
    right
    have:=mem_chooseR t _ h;rw[chooseR_head] at this;rcases List.mem_cons.1 this with h2|h2
    ·cases h2
    ·exact h2
   |cons_cons _ h=>exact .inl (List.mem_map.2 ⟨c,mem_chooseR t c h,rfl⟩)
theorem chooseR_ord:∀(s:List Int),s.Pairwise (·<·)->(∀p∈s,0<=p)->(chooseR s).Pairwise fun l l'=>l.headD (-1)<=l'.headD (-1)
 |[],_,_=>by simp[chooseR]
 |x::t,hs,h0=>by
  have hx:=h0 x YY;have ih:=chooseR_ord t (List.Pairwise.of_cons hs) fun p hp=>h0 p (YW _ hp)
  rw[chooseR_head t] at ih;have Mo:∀c∈(chooseR t).tail,∃p∈t,c.headD (-1)=p:=by
   intro c hc;have A9:=chooseR_ne t c hc;have E5:=chooseR_mem t c (List.mem_of_mem_tail hc);cases c with
   |nil=>exact absurd rfl A9
   |cons y c=>exact⟨y,E5.subset YY,rfl⟩
  rw[chooseR,List.pairwise_cons];constructor
  ·intro c hc;rcases List.mem_append.1 hc with h|h
   ·obtain⟨y,_,rfl⟩:=List.mem_map.1 h;simp;omega
   ·obtain⟨p,hp,e⟩:=Mo c h;rw[e];have:=List.rel_of_pairwise_cons hs hp;simp;omega
  ·rw[List.pairwise_append];refine⟨?_,List.Pairwise.of_cons ih,?_⟩
   ·rw[List.pairwise_map];exact List.pairwise_of_forall fun _ _=>by simp
   ·intro a ha b hb;obtain⟨y,_,rfl⟩:=List.mem_map.1 ha;obtain⟨p,hp,e⟩:=Mo b hb;rw[e];have:=List.rel_of_pairwise_cons hs hp;simp;omega
theorem Zhp(n:Nat)(out:Nat->Bool)(i:Nat):(ZeS n out i).Pairwise (·<·):=by
 rw[ZeS,List.pairwise_map];refine List.Pairwise.filter _ ?_;exact(List.pairwise_lt_range' (s:=i) (n:=n - i) (step:=1) (by omega)).imp fun h=>by omega
theorem Zh5{n:Nat}{out:Nat->Bool}{i:Nat}{p:Int}(h:p∈ZeS n out i):0<=p/\p<n/\out p.toNat=false/\(i:Int)<=p:=by
 rw[ZeS,List.mem_map] at h;obtain⟨k,hk,rfl⟩:=h;obtain⟨h1,h2⟩:=List.mem_filter.1 hk;rw[List.mem_range'_1] at h1;refine⟨by omega,by omega,by simpa using h2,by omega⟩
theorem Zhi(a b c:Int)(L:List Sf)(m n:Nat)(hm:0<m)(s:List Int)(hs:s.Pairwise (·<·))(h0:∀p∈s,0<=p/\p<(n:Int)):Sets (ZgO a b c L m s) n:=by
 have B8:∀l∈ZgO a b c L m s,List.Sublist l s/\l.length=m:=by
  intro l hl;obtain⟨h1,h2⟩:=List.mem_filter.1 hl;simp only[YG,decide_eq_true_eq] at h2;exact⟨chooseR_mem s l h1,h2.1⟩
 refine⟨fun l hl=>hs.sublist (B8 l hl).1,fun l hl p hp=>h0 p ((B8 l hl).1.subset hp),?_,(chooseR_ord s hs fun p hp=>(h0 p hp).1).filter _⟩;rintro l hl rfl;have:=(B8 _ hl).2;simp at this;omega
theorem Zhd(a b c:Int)(L:List Sf)(m n:Nat)(hm:0<m)(out:Nat->Bool)(used:Nat->Bool)(taken:List Int)(hu:∀j,j<n->(used j=true↔(j:Int)∈taken)):
 Zk (Zt a b c L n out m [] 0) n 0 used=shareL [] (ZgO a b c L m (ZeS n out 0)) taken:=by
 rw[Zh0];exact ZhM (Zhi a b c L m n hm _ (Zhp n out 0) fun p hp=>⟨(Zh5 hp).1,(Zh5 hp).2.1⟩) used taken hu
theorem ZhE(a b c:Int)(L:List Sf)(m n:Nat)(hm:0<m)(out:Nat->Bool):Zk (Zt a b c L n out m [] 0) n 0 out=shareL [] (ZgO a b c L m (ZeS n out 0)) []:=by
 rw[<-Zhd a b c L m n hm out (fun _=>false) [] (by simp)];have hS:=Zhi a b c L m n hm _ (Zhp n out 0) fun p hp=>⟨(Zh5 hp).1,(Zh5 hp).2.1⟩
 rw[Zh0];have hg:∀(d i:Nat)(u u':Nat->Bool),(∀j,out j=false->u j=u' j)->Zk (ZgO a b c L m (ZeS n out 0)) d i u=Zk (ZgO a b c L m (ZeS n out 0)) d i u':=by
  intro d
  induction d with
  |zero=>intros;rfl
  |succ d ih=>
   intro i u u' hu;rw[Zk,Zk,ih (i+1) u u' hu];congr 1;refine Z63 fun l hl mo=> ?_
   have I0:=(List.mem_filter.1 hl).1;have Fo:∀p∈l,out p.toNat=false:=fun p hp=>(Zh5 ((chooseR_mem _ _ (List.mem_filter.1 I0).1).subset hp)).2.2.1
   have ht:∀(l:List Int)(u u':Nat->Bool),(∀j,out j=false->u j=u' j)->(∀p∈l,out p.toNat=false)->(take1 u l=none/\take1 u' l=none)\/∃v v',take1 u l=some v/\take1 u' l=some v'/\∀j,out j=false->v j=v' j:=by
    intro l
    induction l with
    |nil=>exact fun u u' hu _=> .inr ⟨u,u',rfl,rfl,hu⟩
    |cons p t ih=>
     intro u u' hu hl;have he:=hu _ (hl p YY);by_cases h:u p.toNat=true
     ·exact .inl ⟨by rw[take1,if_pos h],by rw[take1,if_pos (he▸h)]⟩
     ·rw[take1,if_neg h,take1,if_neg (he▸h)];exact ih _ _ (fun j hj=>by rw[hu j hj]) fun q hq=>hl q (YW _ hq)
   rcases ht l u u' hu Fo with⟨e1,e2⟩|⟨v,v',e1,e2,hs⟩
   ·simp only[ZL,e1,e2]
   ·simp only[ZL,e1,e2];rw[ih (i+1) v v' hs]
 exact hg n 0 out (fun _=>false) fun j hj=>hj
end Go.Proofs.Tryq
namespace Go.Proofs.Tryq
set_option maxRecDepth 100000
set_option maxHeartbeats 4000000
open Go Go.Nk Go.RowKit
def Zm(f:Nat->Bool)(bt:Int->Int->Bool):Nat->Nat×Bool
 |0=>(0,false)
 |k+1=>if f k&&(!(Zm f bt k).2||bt (bl k).length (bl (Zm f bt k).1).length||((bl k).length==(bl (Zm f bt k).1).length&&Z1g k (Zm f bt k).1)) then(k,true) else Zm f bt k
theorem Z56(f:Nat->Bool)(bt:Int->Int->Bool):∀k,k<=256->(Zm f bt k).1<256
 |0,_=>by simp[Zm]
 |k+1,h=>by
  rw[Zm];split
  ·simp;omega
  ·exact Z56 f bt k (by omega)
theorem Z7K(r0 r1 r2 r3:Int)(base:Option Addr)(cap B n:Nat)(p:Nat->Nat)(C:Nat->Nat->Int×Int)(hn:n<=8)(ft:Bool)(g:FuncId)(bt:Int->Int->Bool)(w:World)(hm:Most w)(hC:Cv w B n p C)(hd:Deb w)
 (Fa:∀args w,(callFunc g args).run prog w= .ok (.enter g args) w)(hgc:∀a b w,Calls prog g #[.int .i64 a,.int .i64 b] w fun e w'=>e= .returned (.bool (bt a b))/\w'=w):
 Calls prog 125 #[.agg #[.int .i64 r0,.int .i64 r1,.int .i64 r2,.int .i64 r3,.slice base n cap,.slice (some ⟨B,0,none⟩) n n],.bool ft,.func (.func g) #[] #[]] w fun e w'=>
  ∃v,e= .returned (.tuple #[v,.bool (Zm (fun k=>Zz C k n==ft) bt (2 ^ n)).2])/\OwnI w.heap.size w' v ((bl (Zm (fun k=>Zz C k n==ft) bt (2 ^ n)).1).map fun(i:Nat)=>(i:Int))/\Ext w w':=by
 have Nn:=Z2Z hn;have Bh:=fun v w'=>Z08 r0 r1 r2 r3 base n cap v hn w'
 go_enter func125,ntmps125;have hc:(w.alloc (.cells #[.int .i64 r0,.int .i64 r1,.int .i64 r2,.int .i64 r3,.slice base n cap,.slice (some ⟨B,0,none⟩) n n] 146)).heap[w.heap.size]? =some (.cells #[.int .i64 r0,.int .i64 r1,.int .i64 r2,.int .i64 r3,.slice base n cap,.slice (some ⟨B,0,none⟩) n n] 146):=by rw[Z3,if_pos rfl]
 have As:=(Ext.rfl' w).alloc (.cells #[.int .i64 r0,.int .i64 r1,.int .i64 r2,.int .i64 r3,.slice base n cap,.slice (some ⟨B,0,none⟩) n n] 146)
 go_wp2_with (first
  |(go_at_call 106;refine(Bh _ _).mono ?_;rintro e w2 ⟨rfl,A8⟩;have Cw:=A8.get hc))
 have Av:=As.trans A8;have Mq:((2:Int) ^ n)=((2 ^ n:Nat):Int):=by push_cast;rfl
 have Dr:2 ^ n<=256:=by omega
 rw[Mq];clear Mq Nn A8 hc As;obtain⟨m,Hm⟩:∃m,m=2 ^ n:=⟨_,rfl⟩;rw[<-Hm] at Dr⊢;replace Hm:=Lib.hid Hm;go_loopw [8,9,16] (fun vb vf vk wr=>∃k:Nat,k<=m/\vk= .int .i64 k/\vb= .int .i64 ((Zm (fun k=>Zz C k n==ft) bt k).1:Nat)/\vf= .bool (Zm (fun k=>Zz C k n==ft) bt k).2/\Ext w wr/\wr.heap[w.heap.size]? =some (.cells #[.int .i64 r0,.int .i64 r1,.int .i64 r2,.int .i64 r3,.slice base n cap,.slice (some ⟨B,0,none⟩) n n] 146)) (fun _ _ vk _=>m - (intOf vk).toNat)
 case atStart=>exact⟨0,Nat.zero_le _,rfl,rfl,rfl,Av,Cw⟩
 case round=>
  obtain⟨k,hk,rfl,rfl,rfl,hE,Cx⟩:=hrel;clear Av Cw;have c0:=Z0 Cx 0;have c1:=Z0 Cx 1;have c2:=Z0 Cx 2;have c3:=Z0 Cx 3;have c4:=Z0 Cx 4;have c5:=Z0 Cx 5;simp only[YC,YA,YB] at c0 c1 c2 c3 c4 c5;have Bj:=Z56 (fun k=>Zz C k n==ft) bt k (by omega);by_cases Kl:k=m
  ·subst Kl;have Yl:=fun w hd=>ZbS _ Bj w hd
   go_wp2_with (first|(go_at_call 158;refine(Yl _ (hd.ext hE)).mono ?_;rintro e w9 ⟨v,rfl,hv,Dm⟩))
   go_ret2;rw[<-Hm.out];exact⟨v,rfl,hv.le hE.size,hE.trans Dm⟩
  ·have B0:k<256:=by omega
   have Et:=Z7j r0 r1 r2 r3 (.slice base n cap) B n (k:Int) p C hn (by omega) wr (hm.ext hE) (hC.ext hE);have H:Hid (Zm (fun k=>Zz C k n==ft) bt (k+1)=if(Zz C k n==ft)&&(!(Zm (fun k=>Zz C k n==ft) bt k).2||bt (bl k).length (bl (Zm (fun k=>Zz C k n==ft) bt k).1).length||((bl k).length==(bl (Zm (fun k=>Zz C k n==ft) bt k).1).length&&Z1g k (Zm (fun k=>Zz C k n==ft) bt k).1)) then(k,true) else Zm (fun k=>Zz C k n==ft) bt k):=rfl;generalize Zm (fun k=>Zz C k n==ft) bt k=P at H Bj⊢;obtain⟨b,f⟩:=P;have Y4:(0:Int)<=(k:Int):=by omega
   have F9:(k:Int)<256:=by omega
   have K2:(0:Int)<=(b:Int):=by omega
   have B6:(b:Int)<256:=by have:b<256:=Bj;omega
   have Ma:=fun w=>Z7k k B0 w
   have I1:=fun w=>Z7k b Bj w
   have C0:=fun w=>hgc (bl k).length (bl b).length w
   have Kv:=fun w=>Z89 (k:Int) (b:Int) ⟨Y4,F9⟩ ⟨K2,B6⟩ w
   simp only at H I1 C0 Kv;have hkm2:((k:Int)<(m:Int)):=by omega
   generalize (bl k).length=x at H Ma C0;generalize (bl b).length=y at H I1 C0;generalize Z1g (k:Int) (b:Int)=l at H Kv;generalize Zz C (k:Int) n=q at H Et;generalize bt (x:Int) (y:Int)=t at H C0;by_cases hq:q=ft
   ·subst hq;cases f
    ·have e':Zm (fun k=>Zz C k n==q) bt (k+1)=(k,true):=(by rw[H];simp);replace e':=Lib.hid e';clear H
     go_wp2_with (first
     |(go_at_call 124;refine Et.mono ?_;rintro e w2 ⟨rfl,A8⟩;have hW:=hE.trans A8;have Jj:=A8.get Cx;clear c0 c1 c2 c3 c4 c5)
     |(go_at_call 156;refine(Ma _).mono ?_;rintro e w2 ⟨rfl,rfl⟩)
     |(go_at_call 156;refine(I1 _).mono ?_;rintro e w2 ⟨rfl,rfl⟩)
     |(go_at_call 157;refine(Kv _).mono ?_;rintro e w2 ⟨rfl,rfl⟩)
     |(refine(C0 _).mono ?_;rintro e w2 ⟨rfl,rfl⟩))
     go_roundw
     case rel=>exact⟨k+1,by omega,by push_cast;rfl,by rw[e'.out],by rw[e'.out],hW,Jj⟩
     case measure=>simp[intOf];omega
    ·cases t
     ·by_cases C5:x=y
      ·subst C5;have Gz:(((x:Int)==(x:Int)))=true:=(by simp);cases l
       ·have e':Zm (fun k=>Zz C k n==q) bt (k+1)=(b,true):=(by rw[H];simp);replace e':=Lib.hid e';clear H
        go_wp2_with (first
        |(go_at_call 124;refine Et.mono ?_;rintro e w2 ⟨rfl,A8⟩;have hW:=hE.trans A8;have Jj:=A8.get Cx;clear c0 c1 c2 c3 c4 c5)
        |(go_at_call 156;refine(Ma _).mono ?_;rintro e w2 ⟨rfl,rfl⟩)
        |(go_at_call 156;refine(I1 _).mono ?_;rintro e w2 ⟨rfl,rfl⟩)
        |(go_at_call 157;refine(Kv _).mono ?_;rintro e w2 ⟨rfl,rfl⟩)
        |(refine(C0 _).mono ?_;rintro e w2 ⟨rfl,rfl⟩))
        go_roundw
        case rel=>exact⟨k+1,by omega,by push_cast;rfl,by rw[e'.out],by rw[e'.out],hW,Jj⟩
        case measure=>simp[intOf];omega
       ·have e':Zm (fun k=>Zz C k n==q) bt (k+1)=(k,true):=(by rw[H];simp);replace e':=Lib.hid e';clear H
        go_wp2_with (first
        |(go_at_call 124;refine Et.mono ?_;rintro e w2 ⟨rfl,A8⟩;have hW:=hE.trans A8;have Jj:=A8.get Cx;clear c0 c1 c2 c3 c4 c5)
        |(go_at_call 156;refine(Ma _).mono ?_;rintro e w2 ⟨rfl,rfl⟩)
        |(go_at_call 156;refine(I1 _).mono ?_;rintro e w2 ⟨rfl,rfl⟩)
        |(go_at_call 157;refine(Kv _).mono ?_;rintro e w2 ⟨rfl,rfl⟩)
        |(refine(C0 _).mono ?_;rintro e w2 ⟨rfl,rfl⟩))
        go_roundw
        case rel=>exact⟨k+1,by omega,by push_cast;rfl,by rw[e'.out],by rw[e'.out],hW,Jj⟩
        case measure=>simp[intOf];omega
      ·have Gz:(((x:Int)==(y:Int)))=false:=(by simp;omega);have e':Zm (fun k=>Zz C k n==q) bt (k+1)=(b,true):=(by rw[H];simp[C5]);replace e':=Lib.hid e';clear H
       go_wp2_with (first
       |(go_at_call 124;refine Et.mono ?_;rintro e w2 ⟨rfl,A8⟩;have hW:=hE.trans A8;have Jj:=A8.get Cx;clear c0 c1 c2 c3 c4 c5)
       |(go_at_call 156;refine(Ma _).mono ?_;rintro e w2 ⟨rfl,rfl⟩)
       |(go_at_call 156;refine(I1 _).mono ?_;rintro e w2 ⟨rfl,rfl⟩)
       |(go_at_call 157;refine(Kv _).mono ?_;rintro e w2 ⟨rfl,rfl⟩)
       |(refine(C0 _).mono ?_;rintro e w2 ⟨rfl,rfl⟩))
       go_roundw
       case rel=>exact⟨k+1,by omega,by push_cast;rfl,by rw[e'.out],by rw[e'.out],hW,Jj⟩
       case measure=>simp[intOf];omega
     ·have e':Zm (fun k=>Zz C k n==q) bt (k+1)=(k,true):=(by rw[H];simp);replace e':=Lib.hid e';clear H
      go_wp2_with (first
      |(go_at_call 124;refine Et.mono ?_;rintro e w2 ⟨rfl,A8⟩;have hW:=hE.trans A8;have Jj:=A8.get Cx;clear c0 c1 c2 c3 c4 c5)
      |(go_at_call 156;refine(Ma _).mono ?_;rintro e w2 ⟨rfl,rfl⟩)
      |(go_at_call 156;refine(I1 _).mono ?_;rintro e w2 ⟨rfl,rfl⟩)
      |(go_at_call 157;refine(Kv _).mono ?_;rintro e w2 ⟨rfl,rfl⟩)
      |(refine(C0 _).mono ?_;rintro e w2 ⟨rfl,rfl⟩))
      go_roundw
      case rel=>exact⟨k+1,by omega,by push_cast;rfl,by rw[e'.out],by rw[e'.out],hW,Jj⟩
      case measure=>simp[intOf];omega
   ·cases q<;>cases ft<;>first
     |exact absurd rfl hq
     |(
       have e':=H.trans (if_neg (by simp));replace e':=Lib.hid e';clear H
       go_wp2_with (first
       |(go_at_call 124;refine Et.mono ?_;rintro e w2 ⟨rfl,A8⟩;have hW:=hE.trans A8;have Jj:=A8.get Cx;clear c0 c1 c2 c3 c4 c5)
       |(go_at_call 156;refine(Ma _).mono ?_;rintro e w2 ⟨rfl,rfl⟩)
       |(go_at_call 156;refine(I1 _).mono ?_;rintro e w2 ⟨rfl,rfl⟩)
       |(go_at_call 157;refine(Kv _).mono ?_;rintro e w2 ⟨rfl,rfl⟩)
       |(refine(C0 _).mono ?_;rintro e w2 ⟨rfl,rfl⟩))
       go_roundw
       case rel=>exact⟨k+1,by omega,by push_cast;rfl,by rw[e'.out],by rw[e'.out],hW,Jj⟩
       case measure=>simp[intOf];omega)
end Go.Proofs.Tryq
namespace Go.Proofs.Tryq
set_option maxRecDepth 100000
set_option maxHeartbeats 1000000
open Go Go.Nk Go.RowKit
theorem ZbZ(a b:Int)(w:World):Calls prog 126 #[.int .i64 a,.int .i64 b] w fun e w'=>e= .returned (.bool (decide (a<b)))/\w'=w:=by
 go_enter func126,ntmps126;go_wp2;go_ret;exact⟨rfl,rfl⟩
theorem Zc0(a b:Int)(w:World):Calls prog 128 #[.int .i64 a,.int .i64 b] w fun e w'=>e= .returned (.bool (decide (b<a)))/\w'=w:=by
 go_enter func128,ntmps128;go_wp2;go_ret;exact⟨rfl,rfl⟩
def Z7L(r0 r1 r2 r3:Int)(S:List Rs):List Int:=(bl (Zm (fun k=>Zz (cvS r0 r1 r2 r3 (S.map Ze)) k S.length==false) (fun a b=>decide (a<b)) (2 ^ S.length)).1).map fun(i:Nat)=>(i:Int)
def Z7M(r0 r1 r2 r3:Int)(S:List Rs):List Int:=(bl (Zm (fun k=>Zz (cvS r0 r1 r2 r3 (S.map Ze)) k S.length==true) (fun a b=>decide (b<a)) (2 ^ S.length)).1).map fun(i:Nat)=>(i:Int)
theorem Zas(r0 r1 r2 r3:Int)(base:Option Addr)(n cap:Nat)(S:List Rs)(w:World)(A3:S.length=n)(hS:RawS w base S)(hm:Most w)(hd:Deb w):
 Calls prog 66 #[.agg #[.int .i64 r0,.int .i64 r1,.int .i64 r2,.int .i64 r3,.slice base n cap]] w fun e w'=>∃v,e= .returned (.tuple #[v,.int .i64 (ZC r0 r1 r2 r3 S)])/\OwnI w.heap.size w' v (if ZC r0 r1 r2 r3 S=0 then Z7L r0 r1 r2 r3 S else[])/\Ext w w':=by
 have C7:=Z0U r0 r1 r2 r3 base n cap S;simp only[Zh] at C7;have hb:(w.alloc (.cells #[.int .i64 r0,.int .i64 r1,.int .i64 r2,.int .i64 r3,.slice base n cap] 70)).heap[w.heap.size]? =some (.cells #[.int .i64 r0,.int .i64 r1,.int .i64 r2,.int .i64 r3,.slice base n cap] 70):=by rw[Z3,if_pos rfl]
 have As:Ext w _:=(Ext.rfl' w).alloc (.cells #[.int .i64 r0,.int .i64 r1,.int .i64 r2,.int .i64 r3,.slice base n cap] 70);have F6:=C7 _ A3 (hS.ext As);clear C7;by_cases Cz:ZC r0 r1 r2 r3 S=0
 ·obtain⟨_,h8,B5⟩:=Z0i Cz;rw[if_pos Cz];rw[Cz] at F6⊢;clear Cz;have Cu:(S.map Ze).length=n:=by rw[List.length_map,A3]
  have E3:n<=8:=by omega
  have K1:=fun w hS=>Z2c r0 r1 r2 r3 base cap w (S.map Ze) n Cu E3 hS
  have Ym:=fun B p w hm hC hd=>Z7K r0 r1 r2 r3 base cap B n p (cvS r0 r1 r2 r3 (S.map Ze)) E3 false 126 (fun a b=>decide (a<b)) w hm hC hd (fun args w=>by simp[go_sem]) ZbZ
  simp only[Zh] at K1;go_enter func66,ntmps66
  go_wp2_with (first
   |(go_at_call 62;refine F6.mono ?_;rintro e w2 ⟨rfl,A8⟩;have Av:=As.trans A8;have Ao:=A8.get hb;have q0:=Z0 Ao 0;have q1:=Z0 Ao 1;have q2:=Z0 Ao 2;have q3:=Z0 Ao 3;have q4:=Z0 Ao 4;simp only[YC,YA,YB] at q0 q1 q2 q3 q4)
   |(go_at_call 123;refine(K1 _ (Z4J (hS.ext Av) B5)).mono ?_;rintro e w3 ⟨B,p,rfl,Ar,hC,_,_⟩;have B4:=Av.trans Ar)
   |(go_at_call 125;refine(Ym B p _ (hm.ext B4) hC (hd.ext B4)).mono ?_;rintro e w4 ⟨v,rfl,hv,Ce⟩))
  go_ret2;exact⟨v,rfl,by rw[Z7L,A3];exact hv.le B4.size,B4.trans Ce⟩
 ·rw[if_neg Cz];have hx:(ZC r0 r1 r2 r3 S !=0)=true:=by simpa using Cz
  clear Cz;generalize ZC r0 r1 r2 r3 S=x at hx F6⊢;go_enter func66,ntmps66
  go_wp2_with (first
   |(go_at_call 62;refine F6.mono ?_;rintro e w2 ⟨rfl,A8⟩;have Av:=As.trans A8))
  go_ret2;exact⟨_,rfl,World.ownsRow_nil _ _ _ _,Av⟩
theorem Zat(r0 r1 r2 r3:Int)(base:Option Addr)(n cap:Nat)(S:List Rs)(w:World)(A3:S.length=n)(hS:RawS w base S)(hm:Most w)(hd:Deb w):
 Calls prog 68 #[.agg #[.int .i64 r0,.int .i64 r1,.int .i64 r2,.int .i64 r3,.slice base n cap]] w fun e w'=>∃v,e= .returned (.tuple #[v,.int .i64 (ZC r0 r1 r2 r3 S)])/\OwnI w.heap.size w' v (if ZC r0 r1 r2 r3 S=0 then Z7M r0 r1 r2 r3 S else[])/\Ext w w':=by
 have C7:=Z0U r0 r1 r2 r3 base n cap S;simp only[Zh] at C7;have hb:(w.alloc (.cells #[.int .i64 r0,.int .i64 r1,.int .i64 r2,.int .i64 r3,.slice base n cap] 70)).heap[w.heap.size]? =some (.cells #[.int .i64 r0,.int .i64 r1,.int .i64 r2,.int .i64 r3,.slice base n cap] 70):=by rw[Z3,if_pos rfl]
 have As:Ext w _:=(Ext.rfl' w).alloc (.cells #[.int .i64 r0,.int .i64 r1,.int .i64 r2,.int .i64 r3,.slice base n cap] 70);have F6:=C7 _ A3 (hS.ext As);clear C7;by_cases Cz:ZC r0 r1 r2 r3 S=0
 ·obtain⟨_,h8,B5⟩:=Z0i Cz;rw[if_pos Cz];rw[Cz] at F6⊢;clear Cz;have Cu:(S.map Ze).length=n:=by rw[List.length_map,A3]
  have E3:n<=8:=by omega
  have K1:=fun w hS=>Z2c r0 r1 r2 r3 base cap w (S.map Ze) n Cu E3 hS
  have Ym:=fun B p w hm hC hd=>Z7K r0 r1 r2 r3 base cap B n p (cvS r0 r1 r2 r3 (S.map Ze)) E3 true 128 (fun a b=>decide (b<a)) w hm hC hd (fun args w=>by simp[go_sem]) Zc0
  simp only[Zh] at K1;go_enter func68,ntmps68
  go_wp2_with (first
   |(go_at_call 62;refine F6.mono ?_;rintro e w2 ⟨rfl,A8⟩;have Av:=As.trans A8;have Ao:=A8.get hb;have q0:=Z0 Ao 0;have q1:=Z0 Ao 1;have q2:=Z0 Ao 2;have q3:=Z0 Ao 3;have q4:=Z0 Ao 4;simp only[YC,YA,YB] at q0 q1 q2 q3 q4)
   |(go_at_call 123;refine(K1 _ (Z4J (hS.ext Av) B5)).mono ?_;rintro e w3 ⟨B,p,rfl,Ar,hC,_,_⟩;have B4:=Av.trans Ar)
   |(go_at_call 125;refine(Ym B p _ (hm.ext B4) hC (hd.ext B4)).mono ?_;rintro e w4 ⟨v,rfl,hv,Ce⟩))
  go_ret2;exact⟨v,rfl,by rw[Z7M,A3];exact hv.le B4.size,B4.trans Ce⟩
 ·rw[if_neg Cz];have hx:(ZC r0 r1 r2 r3 S !=0)=true:=by simpa using Cz
  clear Cz;generalize ZC r0 r1 r2 r3 S=x at hx F6⊢;go_enter func68,ntmps68
  go_wp2_with (first
   |(go_at_call 62;refine F6.mono ?_;rintro e w2 ⟨rfl,A8⟩;have Av:=As.trans A8))
  go_ret2;exact⟨_,rfl,World.ownsRow_nil _ _ _ _,Av⟩
def Z1e(r0 r1 r2 r3:Int)(S:List Rs)(k:Int):Int:=firstV [ZC r0 r1 r2 r3 S,Z6r S.length k]
def Z68(r2 r3:Int)(s:Rs):Int×Int:=(lo s.m s.wi s.li r2 r3,hi s.M s.wi s.li r2 r3)
def Zau(r0 r1 r2 r3:Int)(S:List Rs)(k:Int):Int×Int:=if Z1e r0 r1 r2 r3 S k=0 then(match S[k.toNat]? with|some s=>Z68 r2 r3 s|none=>(0,0)) else(0,0)
theorem Z69(r0 r1 r2 r3:Int)(base:Option Addr)(n cap:Nat)(S:List Rs)(k:Int)(w:World)(A3:S.length=n)(Tk:n<=20)(hS:RawS w base S):
 Calls prog 49 #[.agg #[.int .i64 r0,.int .i64 r1,.int .i64 r2,.int .i64 r3,.slice base n cap],.int .i64 k] w fun e w'=>e= .returned (.tuple #[.agg #[.int .i64 (Zau r0 r1 r2 r3 S k).1,.int .i64 (Zau r0 r1 r2 r3 S k).2],.int .i64 (Z1e r0 r1 r2 r3 S k)])/\Ext w w':=by
 have Ar:Ext w ((((w.alloc (.cells #[.int .i64 r0,.int .i64 r1,.int .i64 r2,.int .i64 r3,.slice base n cap] 70)).alloc (.cells #[.int .i64 k] 3)).alloc (.cells #[.int .i64 0,.int .i64 0] 48)).alloc (.cells #[.func (.func 107) #[] #[.pointer (some ⟨w.heap.size,0,none⟩)],.func (.func 108) #[] #[.pointer (some ⟨w.heap.size+1,0,none⟩),.pointer (some ⟨w.heap.size,0,none⟩)]] 127)):=((((Ext.rfl' w).alloc _).alloc _).alloc _).alloc _;have hb:((((w.alloc (.cells #[.int .i64 r0,.int .i64 r1,.int .i64 r2,.int .i64 r3,.slice base n cap] 70)).alloc (.cells #[.int .i64 k] 3)).alloc (.cells #[.int .i64 0,.int .i64 0] 48)).alloc (.cells #[.func (.func 107) #[] #[.pointer (some ⟨w.heap.size,0,none⟩)],.func (.func 108) #[] #[.pointer (some ⟨w.heap.size+1,0,none⟩),.pointer (some ⟨w.heap.size,0,none⟩)]] 127)).heap[w.heap.size]? =some (.cells #[.int .i64 r0,.int .i64 r1,.int .i64 r2,.int .i64 r3,.slice base n cap] 70):=by
  simp only[Z3,Z2];rw[if_neg (by omega),if_neg (by omega),if_neg (by omega),if_pos trivial]
 have hk:((((w.alloc (.cells #[.int .i64 r0,.int .i64 r1,.int .i64 r2,.int .i64 r3,.slice base n cap] 70)).alloc (.cells #[.int .i64 k] 3)).alloc (.cells #[.int .i64 0,.int .i64 0] 48)).alloc (.cells #[.func (.func 107) #[] #[.pointer (some ⟨w.heap.size,0,none⟩)],.func (.func 108) #[] #[.pointer (some ⟨w.heap.size+1,0,none⟩),.pointer (some ⟨w.heap.size,0,none⟩)]] 127)).heap[w.heap.size+1]? =some (.cells #[.int .i64 k] 3):=by
  simp only[Z3,Z2];rw[if_neg (by omega),if_neg (by omega),if_pos trivial]
 have hz:((((w.alloc (.cells #[.int .i64 r0,.int .i64 r1,.int .i64 r2,.int .i64 r3,.slice base n cap] 70)).alloc (.cells #[.int .i64 k] 3)).alloc (.cells #[.int .i64 0,.int .i64 0] 48)).alloc (.cells #[.func (.func 107) #[] #[.pointer (some ⟨w.heap.size,0,none⟩)],.func (.func 108) #[] #[.pointer (some ⟨w.heap.size+1,0,none⟩),.pointer (some ⟨w.heap.size,0,none⟩)]] 127)).heap[w.heap.size+1+1]? =some (.cells #[.int .i64 0,.int .i64 0] 48):=by
  simp only[Z3,Z2];rw[if_neg (by omega),if_pos trivial]
 have hf:((((w.alloc (.cells #[.int .i64 r0,.int .i64 r1,.int .i64 r2,.int .i64 r3,.slice base n cap] 70)).alloc (.cells #[.int .i64 k] 3)).alloc (.cells #[.int .i64 0,.int .i64 0] 48)).alloc (.cells #[.func (.func 107) #[] #[.pointer (some ⟨w.heap.size,0,none⟩)],.func (.func 108) #[] #[.pointer (some ⟨w.heap.size+1,0,none⟩),.pointer (some ⟨w.heap.size,0,none⟩)]] 127)).heap[w.heap.size+1+1+1]? =some (.cells #[.func (.func 107) #[] #[.pointer (some ⟨w.heap.size,0,none⟩)],.func (.func 108) #[] #[.pointer (some ⟨w.heap.size+1,0,none⟩),.pointer (some ⟨w.heap.size,0,none⟩)]] 127):=by
  simp only[Z3,Z2];rw[if_pos trivial]
 have Gm:=fun w4 (Ar:Ext w w4)(hb:w4.heap[w.heap.size]? =some (.cells #[.int .i64 r0,.int .i64 r1,.int .i64 r2,.int .i64 r3,.slice base n cap] 70))(hk:w4.heap[w.heap.size+1]? =some (.cells #[.int .i64 k] 3))(hf:w4.heap[w.heap.size+1+1+1]? =some (.cells #[.func (.func 107) #[] #[.pointer (some ⟨w.heap.size,0,none⟩)],.func (.func 108) #[] #[.pointer (some ⟨w.heap.size+1,0,none⟩),.pointer (some ⟨w.heap.size,0,none⟩)]] 127))=>
  Z1S (w.heap.size+1+1+1) 2 2 (fun i=>if i=0 then 107 else 108) (fun i=> #[]) (fun i=>if i=0 then #[.pointer (some ⟨w.heap.size,0,none⟩)] else #[.pointer (some ⟨w.heap.size+1,0,none⟩),.pointer (some ⟨w.heap.size,0,none⟩)]) [ZC r0 r1 r2 r3 S,Z6r n k] rfl (by omega) w4 (by
   intro i hi;rw[Z0 hf];obtain rfl|rfl:i=0\/i=1:=by omega
   ·rfl
   ·rfl) (by
   intro i hi args w';obtain rfl|rfl:i=0\/i=1:=by omega
   ·simp[go_sem]
   ·simp[go_sem]) (by
   intro i x hx w' hE'
   match i,hx with
   |0,hx=>
    obtain rfl:=YT hx;exact ZcT r0 r1 r2 r3 base n cap S w' A3 (hS.ext (Ar.trans hE')) _ (hE'.get hb)
   |1,hx=>
    obtain rfl:=YT hx;exact ZcV r0 r1 r2 r3 base n cap Tk w' _ (hE'.get hb) _ k (hE'.cellS (by rw[Z0 hk];rfl)))
 have I9:firstV [ZC r0 r1 r2 r3 S,Z6r n k]=Z1e r0 r1 r2 r3 S k:=by rw[Z1e,A3]
 rw[I9] at Gm;clear I9;have E4:w.heap.size<=w.heap.size+1+1:=by omega
 have Id:=Gm _ Ar hb hk hf;clear Gm hf;by_cases Cz:Z1e r0 r1 r2 r3 S k=0
 ·have Aw:0<=k/\k<n:=by
   have h2:=firstV_all Cz (Z6r S.length k) (by simp);unfold Z6r at h2;rw[A3] at h2;split at h2
   ·assumption
   ·omega
  obtain⟨sh,B9⟩:∃sh,S[k.toNat]? =some sh:=⟨_,YH (by omega)⟩;rw[Zau,if_pos Cz,B9];simp only;rw[Cz] at Id⊢;clear Cz;obtain⟨b,off,rfl,Bj,hat⟩:=hS _ _ B9;have hwd:=fun w Bj hat=>Z39 r0 r1 r2 r3 sh.a sh.m sh.M sh.wi sh.li k b off n cap w Aw.1 (by omega) Bj hat
  simp only[Zg,Z83] at hwd;go_enter func49,ntmps49
  go_wp2_with (first
   |(go_at_call 90;refine Id.mono ?_;rintro e w5 ⟨rfl,B4⟩;have Ce:=Ar.trans B4;have Ju:=B4.get hb;have hk5:=B4.get hk;have Mr:=B4.get hz;have q0:=Z0 Ju 0;have q1:=Z0 Ju 1;have q2:=Z0 Ju 2;have q3:=Z0 Ju 3;have q4:=Z0 Ju 4;have q5:=Z0 hk5 0;simp only[YC,YA,YB] at q0 q1 q2 q3 q4 q5;clear hb hk hz)
   |(go_at_call 111;refine(hwd _ (Ce.lt Bj) ⟨Ce.cellS hat.c0,Ce.cellS hat.c1,Ce.cellS hat.c2,Ce.cellS hat.c3,Ce.cellS hat.c4⟩).mono ?_;rintro e w6 ⟨rfl,hG⟩;have Ii:=Ce.trans hG.ext;have To:=hG.ext.get Mr;have p:=Zc To;have p0:=p.1;have p1:=p.2.1;have p2:=p.2.2.1;have p3:=p.2.2.2;clear p))
  have hh:=Zc (set_pair To (.int .i64 (lo sh.m sh.wi sh.li r2 r3)) (.int .i64 (hi sh.M sh.wi sh.li r2 r3)));have Tp:=hh.1;have Tq:=hh.2.1;refine bodyPost_ret (v:= .tuple #[.agg #[.int .i64 (lo sh.m sh.wi sh.li r2 r3),.int .i64 (hi sh.M sh.wi sh.li r2 r3)],.int .i64 0]) ((Z01 rfl _ _ _).trans ?_) rfl ⟨rfl,(Ii.setCell _ _ E4).setCell _ _ E4⟩;simp[go_sem,Tp,Tq]
 ·have hx:(Z1e r0 r1 r2 r3 S k !=0)=true:=by simpa using Cz
  rw[Zau,if_neg Cz];clear Cz;generalize Z1e r0 r1 r2 r3 S k=x at hx Id⊢;go_enter func49,ntmps49
  go_wp2_with (first
   |(go_at_call 90;refine Id.mono ?_;rintro e w5 ⟨rfl,B4⟩;have Ce:=Ar.trans B4;have Mr:=B4.get hz;have p:=Zc Mr;have p0:=p.1;have p1:=p.2.1;have p2:=p.2.2.1;have p3:=p.2.2.2;clear p hb hk hz))
  have hh:=Zc (set_pair Mr (.int .i64 0) (.int .i64 0));have Tp:=hh.1;have Tq:=hh.2.1;refine bodyPost_ret (v:= .tuple #[.agg #[.int .i64 0,.int .i64 0],.int .i64 x]) ((Z01 rfl _ _ _).trans ?_) rfl ⟨rfl,(Ce.setCell _ _ E4).setCell _ _ E4⟩;simp[go_sem,Tp,Tq]
end Go.Proofs.Tryq
