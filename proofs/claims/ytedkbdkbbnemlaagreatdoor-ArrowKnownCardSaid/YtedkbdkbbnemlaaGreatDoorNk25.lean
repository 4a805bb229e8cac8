import Derived.Test.YtedkbdkbbnemlaaGreatDoorNk24
import Derived.Lib.Hide
set_option linter.all false
namespace Go.Proofs.Tryq
set_option maxRecDepth 100000
set_option maxHeartbeats 4000000
open Go Go.Nk Go.RowKit
theorem ZdG{x y:Sf}(h:nmL x=nmL y):x.nm=y.nm:=by
 have h2:x.nm.data=y.nm.data:=Array.toList_inj.1 h;cases hx:x.nm;cases hy:y.nm;rw[hx,hy] at h2;simp at h2;rw[h2]
theorem Z71{s t:ByteArray}(h:s.toList=t.toList):s=t:=by
 rw[ByteArray.toList_eq,ByteArray.toList_eq] at h;cases s;cases t;simp at h;rw[h]
theorem Z1P(a b c m:Int)(base:Option Addr)(n cap:Nat)(L:List Sf)(w:World)(A2:L.length=n)(Tb:n<=1000000)(hS:RawA w base L):
 Calls prog 26 #[.agg #[.int .i64 a,.int .i64 b,.int .i64 c,.int .i64 m,.slice base n cap]] w fun e w'=>e= .returned (.int .i64 (Zp a b c m L))/\Ext w w':=by
 have hr:∀n hi w,Calls prog 93 #[.int .i64 n,.int .i64 0,.int .i64 hi] w fun e w'=>e= .returned (.bool (okA n hi))/\w'=w:=fun n hi w=>Z4r n 0 hi w
 have Dz:=fun w=>hr a 9999 w;have Cx:=fun w=>hr b 9999 w;have F9:=fun w=>hr c 9999 w;have J6:=fun w=>Z4r m 2 4 w
 clear hr;by_cases hR:Z2J a b c m=0
 ·have I0:okA a 9999=true/\okA b 9999=true/\okA c 9999=true/\decide (2<=m/\m<=4)=true:=by
   unfold Z2J at hR;split at hR
   ·rename_i h;simp only[Bool.and_eq_true] at h;exact⟨h.1.1.1,h.1.1.2,h.1.2,h.2⟩
   ·cases hR
  simp only[I0.1] at Dz;simp only[I0.2.1] at Cx;simp only[I0.2.2.1] at F9;simp only[I0.2.2.2] at J6;have hF:Hid (Zp a b c m L=Zj L):=by
   show _=_;rw[Zp,firstV,if_pos hR];simp only[firstV];split
   ·rename_i h;exact h.symm
   ·rfl
  clear hR I0;by_cases h9:9<L.length
  ·have H:Hid (Zp a b c m L=2):=by show _=_;rw[hF.out,Zj,if_pos h9]
   have Lr:(9:Int)<(n:Int):=by omega
   clear h9 hF;go_enter func26,ntmps26
   go_wp2_with (first
    |(go_at_call 93;(with_reducible refine(Dz _).mono ?_);rintro e w2 ⟨rfl,rfl⟩)
    |(go_at_call 93;(with_reducible refine(Cx _).mono ?_);rintro e w2 ⟨rfl,rfl⟩)
    |(go_at_call 93;(with_reducible refine(F9 _).mono ?_);rintro e w2 ⟨rfl,rfl⟩)
    |(go_at_call 93;(with_reducible refine(J6 _).mono ?_);rintro e w2 ⟨rfl,rfl⟩))
   go_ret;exact⟨ZK (a:=2) H.out.symm,((Ext.rfl' w).alloc _).alloc _⟩
  ·have H:Hid (Zp a b c m L=shA ((L.take 0).map nmL) (L.drop 0)):=by show _=_;rw[hF.out,Zj,if_neg h9];rfl
   have Lr:(n:Int)<=9:=by omega
   clear h9 hF;go_enter func26,ntmps26
   go_wp2_with (first
    |(go_at_call 93;(with_reducible refine(Dz _).mono ?_);rintro e w2 ⟨rfl,rfl⟩)
    |(go_at_call 93;(with_reducible refine(Cx _).mono ?_);rintro e w2 ⟨rfl,rfl⟩)
    |(go_at_call 93;(with_reducible refine(F9 _).mono ?_);rintro e w2 ⟨rfl,rfl⟩)
    |(go_at_call 93;(with_reducible refine(J6 _).mono ?_);rintro e w2 ⟨rfl,rfl⟩))
   clear Dz Cx F9 J6;have Bf:=((Ext.rfl' w).alloc (.cells #[.int .i64 a,.int .i64 b,.int .i64 c,.int .i64 m,.slice base n cap] 26)).alloc (.cells #[.int .i64 a,.int .i64 b,.int .i64 c,.int .i64 m] 23);go_loopw [4] (fun v wr=>∃i:Nat,i<=n/\v= .int .i64 i/\wr.heap[w.heap.size]? =some (.cells #[.int .i64 a,.int .i64 b,.int .i64 c,.int .i64 m,.slice base n cap] 26)/\Ext w wr/\Hid (Zp a b c m L=shA ((L.take i).map nmL) (L.drop i))) (fun v _=>n - (intOf v).toNat)
   case atStart=>exact⟨0,Nat.zero_le _,rfl,by simp only[Z3,Z2];rw[if_neg (by omega),if_pos trivial],Bf,H⟩
   case round=>
    obtain⟨i,hi,rfl,hr,hE,hH⟩:=hrel;clear Bf H;have q4:=Z0 hr 4;simp only[List.getElem?_toArray,List.getElem?_cons_zero,List.getElem?_cons_succ] at q4;have hlr:=Z5 hr;by_cases Am:i=n
    ·subst Am;have hz:Hid (Zp a b c m L=0):=(by show _=_;rw[hH.out,<-A2,List.drop_length];rfl);clear hH;go_wp2;go_ret;exact⟨ZK (a:=0) hz.out.symm,hE⟩
    ·have A3:i<n:=(by omega);obtain⟨x,hx⟩:∃x,L[i]? =some x:=⟨_,List.getElem?_eq_getElem (by omega)⟩;have Aa:Hid (Zp a b c m L=if Z2d x.nm=false then 4 else if nmL x∈(L.take i).map nmL then 5 else if Z8b x=false then 1 else shA ((L.take (i+1)).map nmL) (L.drop (i+1))):=by
      show _=_;rw[hH.out,Z0b hx,shA,Z0G hx,List.map_append];rfl
     have Fs:=hS.ext hE;obtain⟨b',off,rfl,hb,⟨k0,k1,k2,k3,k4,k5,k6⟩,Ls⟩:=Fs i x hx;have Fb:=fun w=>Z70 x.nm w Ls
     have Cc:(0:Int)<=(i:Int):=(by omega);cases hnb:Z2d x.nm
     ·have Aw:Hid (Zp a b c m L=4):=(by show _=_;rw[Aa.out,if_pos hnb]);rw[hnb] at Fb;clear hnb Aa hH hx
      go_wp2_with (first
       |(go_at_call 94;refine(Fb _).mono ?_;rintro e w2 ⟨rfl,rfl⟩))
      go_ret;exact⟨ZK (a:=4) Aw.out.symm,hE.alloc _⟩
     ·rw[hnb] at Fb;have Hh:Hid (Zp a b c m L=if nmL x∈(L.take i).map nmL then 5 else if Z8b x=false then 1 else shA ((L.take (i+1)).map nmL) (L.drop (i+1))):=(by show _=_;rw[Aa.out,if_neg (by rw[hnb];simp)]);clear Aa hH hnb
      go_wp2_with (first
       |(go_at_call 94;refine(Fb _).mono ?_;rintro e w2 ⟨rfl,Eh⟩;subst Eh))
      have B0:=hE.alloc (.cells #[.string x.nm,.int .i64 x.a0,.int .i64 x.a1,.int .i64 x.b0,.int .i64 x.b1,.int .i64 x.c0,.int .i64 x.c1] 51);have Y4:(wr.alloc (.cells #[.string x.nm,.int .i64 x.a0,.int .i64 x.a1,.int .i64 x.b0,.int .i64 x.b1,.int .i64 x.c0,.int .i64 x.c1] 51)).heap[wr.heap.size]? =some (.cells #[.string x.nm,.int .i64 x.a0,.int .i64 x.a1,.int .i64 x.b0,.int .i64 x.b1,.int .i64 x.c0,.int .i64 x.c1] 51):=(by rw[Z3,if_pos rfl]);have Gw:=((Ext.rfl' wr).alloc (.cells #[.string x.nm,.int .i64 x.a0,.int .i64 x.a1,.int .i64 x.b0,.int .i64 x.b1,.int .i64 x.c0,.int .i64 x.c1] 51)).get hr;have HN:Hid (nmL x∈(L.take i).map nmL↔nmL x∈((L.take i).drop 0).map nmL):=Iff.rfl;clear Fb k0 k1 k2 k3 k4 k5 k6 hr q4;have O6:=Fs.ext ((Ext.rfl' wr).alloc (.cells #[.string x.nm,.int .i64 x.a0,.int .i64 x.a1,.int .i64 x.b0,.int .i64 x.b1,.int .i64 x.c0,.int .i64 x.c1] 51));generalize World.alloc wr _=V at O6 B0 Y4 Gw⊢;obtain⟨wo,rfl⟩:∃wo:World,wo=wr:=⟨_,rfl⟩;go_loopw [6] (fun v wi=>∃k:Nat,k<=i/\v= .int .i64 k/\Ext V wi/\Hid (nmL x∈(L.take i).map nmL↔nmL x∈((L.take i).drop k).map nmL)) (fun v _=>i - (intOf v).toNat)
      case atStart=>exact⟨0,Nat.zero_le _,rfl,Ext.rfl' V,HN⟩
      case round=>
       obtain⟨k,hk,rfl,Q8,Q9⟩:=hrel;clear HN;have hrk:=Q8.get Gw;have Md:=Q8.get Y4;have q4:=Z0 hrk 4;simp only[List.getElem?_toArray,List.getElem?_cons_zero,List.getElem?_cons_succ] at q4;by_cases Fe:k=i
       ·subst Fe;have Kf:¬nmL x∈(L.take k).map nmL:=(by rw[Q9.out,List.drop_of_length_le (by rw[List.length_take];omega)];simp);have Fo:Hid (Zp a b c m L=if Z8b x=false then 1 else shA ((L.take (k+1)).map nmL) (L.drop (k+1))):=(by show _=_;rw[Hh.out,if_neg Kf]);have y1:=Z0 Md 1;have y2:=Z0 Md 2;have y3:=Z0 Md 3;have y4:=Z0 Md 4;have y5:=Z0 Md 5;have y6:=Z0 Md 6;simp only[List.getElem?_toArray,List.getElem?_cons_zero,List.getElem?_cons_succ] at y1 y2 y3 y4 y5 y6;have H6:∀w,Calls prog 95 #[.agg #[.int .i64 x.a0,.int .i64 x.a1],.int .i64 0,.int .i64 9999] w fun e w'=>e= .returned (.bool (ZF (spA x 0)))/\Ext w w':=fun w=>Z2e x.a0 x.a1 0 9999 w
        have Ej:∀w,Calls prog 95 #[.agg #[.int .i64 x.b0,.int .i64 x.b1],.int .i64 0,.int .i64 9999] w fun e w'=>e= .returned (.bool (ZF (spA x 1)))/\Ext w w':=fun w=>Z2e x.b0 x.b1 0 9999 w
        have Mv:∀w,Calls prog 95 #[.agg #[.int .i64 x.c0,.int .i64 x.c1],.int .i64 0,.int .i64 9999] w fun e w'=>e= .returned (.bool (ZF (spA x 2)))/\Ext w w':=fun w=>Z2e x.c0 x.c1 0 9999 w
        have Az:Z8b x=(ZF (spA x 0)&&ZF (spA x 1)&&ZF (spA x 2)):=rfl;have D0:=B0.trans Q8;have Ak:=Md;have Dg:=hrk;clear Hh Q9 Kf hx Y4 Q8;cases h1:ZF (spA x 0) with
        |false=>
         simp only[h1] at H6;have Aw:Hid (Zp a b c m L=1):=(by show _=_;rw[Fo.out,if_pos (by rw[Az,h1];simp)]);clear Fo Az
         go_wp2_with (first
          |(go_at_call 95;(with_reducible refine(H6 _).mono ?_);rintro e w2 ⟨rfl,A7⟩;replace D0:=D0.trans A7;replace Ak:=A7.get Ak;replace Dg:=A7.get Dg;clear A7 y1 y2 y3 y4 y5 y6;have y1:=Z0 Ak 1;have y2:=Z0 Ak 2;have y3:=Z0 Ak 3;have y4:=Z0 Ak 4;have y5:=Z0 Ak 5;have y6:=Z0 Ak 6;simp only[List.getElem?_toArray,List.getElem?_cons_zero,List.getElem?_cons_succ] at y1 y2 y3 y4 y5 y6)
          |(go_at_call 95;(with_reducible refine(Ej _).mono ?_);rintro e w2 ⟨rfl,A7⟩;replace D0:=D0.trans A7;replace Ak:=A7.get Ak;replace Dg:=A7.get Dg;clear A7 y1 y2 y3 y4 y5 y6;have y1:=Z0 Ak 1;have y2:=Z0 Ak 2;have y3:=Z0 Ak 3;have y4:=Z0 Ak 4;have y5:=Z0 Ak 5;have y6:=Z0 Ak 6;simp only[List.getElem?_toArray,List.getElem?_cons_zero,List.getElem?_cons_succ] at y1 y2 y3 y4 y5 y6)
          |(go_at_call 95;(with_reducible refine(Mv _).mono ?_);rintro e w2 ⟨rfl,A7⟩;replace D0:=D0.trans A7;replace Ak:=A7.get Ak;replace Dg:=A7.get Dg;clear A7 y1 y2 y3 y4 y5 y6;have y1:=Z0 Ak 1;have y2:=Z0 Ak 2;have y3:=Z0 Ak 3;have y4:=Z0 Ak 4;have y5:=Z0 Ak 5;have y6:=Z0 Ak 6;simp only[List.getElem?_toArray,List.getElem?_cons_zero,List.getElem?_cons_succ] at y1 y2 y3 y4 y5 y6))
         go_ret;exact⟨ZK (a:=1) Aw.out.symm,D0⟩
        |true=>
         simp only[h1] at H6;cases h2:ZF (spA x 1) with
         |false=>
          simp only[h2] at Ej;have Aw:Hid (Zp a b c m L=1):=(by show _=_;rw[Fo.out,if_pos (by rw[Az,h1,h2];simp)]);clear Fo Az
          go_wp2_with (first
           |(go_at_call 95;(with_reducible refine(H6 _).mono ?_);rintro e w2 ⟨rfl,A7⟩;replace D0:=D0.trans A7;replace Ak:=A7.get Ak;replace Dg:=A7.get Dg;clear A7 y1 y2 y3 y4 y5 y6;have y1:=Z0 Ak 1;have y2:=Z0 Ak 2;have y3:=Z0 Ak 3;have y4:=Z0 Ak 4;have y5:=Z0 Ak 5;have y6:=Z0 Ak 6;simp only[List.getElem?_toArray,List.getElem?_cons_zero,List.getElem?_cons_succ] at y1 y2 y3 y4 y5 y6)
           |(go_at_call 95;(with_reducible refine(Ej _).mono ?_);rintro e w2 ⟨rfl,A7⟩;replace D0:=D0.trans A7;replace Ak:=A7.get Ak;replace Dg:=A7.get Dg;clear A7 y1 y2 y3 y4 y5 y6;have y1:=Z0 Ak 1;have y2:=Z0 Ak 2;have y3:=Z0 Ak 3;have y4:=Z0 Ak 4;have y5:=Z0 Ak 5;have y6:=Z0 Ak 6;simp only[List.getElem?_toArray,List.getElem?_cons_zero,List.getElem?_cons_succ] at y1 y2 y3 y4 y5 y6)
           |(go_at_call 95;(with_reducible refine(Mv _).mono ?_);rintro e w2 ⟨rfl,A7⟩;replace D0:=D0.trans A7;replace Ak:=A7.get Ak;replace Dg:=A7.get Dg;clear A7 y1 y2 y3 y4 y5 y6;have y1:=Z0 Ak 1;have y2:=Z0 Ak 2;have y3:=Z0 Ak 3;have y4:=Z0 Ak 4;have y5:=Z0 Ak 5;have y6:=Z0 Ak 6;simp only[List.getElem?_toArray,List.getElem?_cons_zero,List.getElem?_cons_succ] at y1 y2 y3 y4 y5 y6))
          go_ret;exact⟨ZK (a:=1) Aw.out.symm,D0⟩
         |true=>
          simp only[h2] at Ej;cases h3:ZF (spA x 2) with
          |false=>
           simp only[h3] at Mv;have Aw:Hid (Zp a b c m L=1):=(by show _=_;rw[Fo.out,if_pos (by rw[Az,h1,h2,h3];simp)]);clear Fo Az
           go_wp2_with (first
            |(go_at_call 95;(with_reducible refine(H6 _).mono ?_);rintro e w2 ⟨rfl,A7⟩;replace D0:=D0.trans A7;replace Ak:=A7.get Ak;replace Dg:=A7.get Dg;clear A7 y1 y2 y3 y4 y5 y6;have y1:=Z0 Ak 1;have y2:=Z0 Ak 2;have y3:=Z0 Ak 3;have y4:=Z0 Ak 4;have y5:=Z0 Ak 5;have y6:=Z0 Ak 6;simp only[List.getElem?_toArray,List.getElem?_cons_zero,List.getElem?_cons_succ] at y1 y2 y3 y4 y5 y6)
            |(go_at_call 95;(with_reducible refine(Ej _).mono ?_);rintro e w2 ⟨rfl,A7⟩;replace D0:=D0.trans A7;replace Ak:=A7.get Ak;replace Dg:=A7.get Dg;clear A7 y1 y2 y3 y4 y5 y6;have y1:=Z0 Ak 1;have y2:=Z0 Ak 2;have y3:=Z0 Ak 3;have y4:=Z0 Ak 4;have y5:=Z0 Ak 5;have y6:=Z0 Ak 6;simp only[List.getElem?_toArray,List.getElem?_cons_zero,List.getElem?_cons_succ] at y1 y2 y3 y4 y5 y6)
            |(go_at_call 95;(with_reducible refine(Mv _).mono ?_);rintro e w2 ⟨rfl,A7⟩;replace D0:=D0.trans A7;replace Ak:=A7.get Ak;replace Dg:=A7.get Dg;clear A7 y1 y2 y3 y4 y5 y6;have y1:=Z0 Ak 1;have y2:=Z0 Ak 2;have y3:=Z0 Ak 3;have y4:=Z0 Ak 4;have y5:=Z0 Ak 5;have y6:=Z0 Ak 6;simp only[List.getElem?_toArray,List.getElem?_cons_zero,List.getElem?_cons_succ] at y1 y2 y3 y4 y5 y6))
           go_ret;exact⟨ZK (a:=1) Aw.out.symm,D0⟩
          |true=>
           simp only[h3] at Mv;have Aw:Hid (Zp a b c m L=shA ((L.take (k+1)).map nmL) (L.drop (k+1))):=(by show _=_;rw[Fo.out,if_neg (by rw[Az,h1,h2,h3];simp)]);clear Fo Az
           go_wp2_with (first
            |(go_at_call 95;(with_reducible refine(H6 _).mono ?_);rintro e w2 ⟨rfl,A7⟩;replace D0:=D0.trans A7;replace Ak:=A7.get Ak;replace Dg:=A7.get Dg;clear A7 y1 y2 y3 y4 y5 y6;have y1:=Z0 Ak 1;have y2:=Z0 Ak 2;have y3:=Z0 Ak 3;have y4:=Z0 Ak 4;have y5:=Z0 Ak 5;have y6:=Z0 Ak 6;simp only[List.getElem?_toArray,List.getElem?_cons_zero,List.getElem?_cons_succ] at y1 y2 y3 y4 y5 y6)
            |(go_at_call 95;(with_reducible refine(Ej _).mono ?_);rintro e w2 ⟨rfl,A7⟩;replace D0:=D0.trans A7;replace Ak:=A7.get Ak;replace Dg:=A7.get Dg;clear A7 y1 y2 y3 y4 y5 y6;have y1:=Z0 Ak 1;have y2:=Z0 Ak 2;have y3:=Z0 Ak 3;have y4:=Z0 Ak 4;have y5:=Z0 Ak 5;have y6:=Z0 Ak 6;simp only[List.getElem?_toArray,List.getElem?_cons_zero,List.getElem?_cons_succ] at y1 y2 y3 y4 y5 y6)
            |(go_at_call 95;(with_reducible refine(Mv _).mono ?_);rintro e w2 ⟨rfl,A7⟩;replace D0:=D0.trans A7;replace Ak:=A7.get Ak;replace Dg:=A7.get Dg;clear A7 y1 y2 y3 y4 y5 y6;have y1:=Z0 Ak 1;have y2:=Z0 Ak 2;have y3:=Z0 Ak 3;have y4:=Z0 Ak 4;have y5:=Z0 Ak 5;have y6:=Z0 Ak 6;simp only[List.getElem?_toArray,List.getElem?_cons_zero,List.getElem?_cons_succ] at y1 y2 y3 y4 y5 y6))
           exact⟨⟨k+1,by omega,by push_cast;rfl,Dg,D0,Aw⟩,by simp[intOf];omega⟩
       ·have Y5:k<i:=(by omega);obtain⟨y,hy⟩:∃y,L[k]? =some y:=⟨_,List.getElem?_eq_getElem (by omega)⟩;obtain⟨b2,off2,Gz,An,hky,hnmy⟩:=(O6.ext Q8) k y hy;obtain⟨rfl,rfl⟩:b'=b2/\off=off2:=(by simpa using Gz);have B9:=hky.1;have B6:=Z0 Md 0;simp only[List.getElem?_toArray,List.getElem?_cons_zero] at B6;have Ca:¬n<=k:=(by omega);have Ez:nmL x∈((L.take i).drop k).map nmL↔nmL x=nmL y\/nmL x∈((L.take i).drop (k+1)).map nmL:=by
         have hty:(L.take i)[k]? =some y:=(by rw[List.getElem?_take,if_pos Y5];exact hy);rw[Z0b hty,List.map_cons,List.mem_cons]
        go_wp2_with fail
        have gz0:=Zet q4;have gz1:=Zet B9;have gz2:=Zet B6;refine ZeG 9 (by kernel_rfl) ?_;refine ZeB [0,1,2,3,4,5,6,7,8] (by kernel_rfl) (by kernel_rfl) ?_;simp only[ZeD,List.getElem?_cons_succ,List.getElem?_cons_zero,List.cons_append,List.nil_append]
        repeat (go_big_quiet_step (fail))
        refine wpQuiet_nil ?_;refine Zf6 (by kernel_rfl) (fun W hW=> ?_);have B7:=hW;clear gz0 gz1 gz2;have Tc:=Q8.trans B7;by_cases Ce:nmL x=nmL y
        ·have he:(y.nm.toList==x.nm.toList)=true:=(by simp[ZdG Ce]);have Aw:Hid (Zp a b c m L=5):=(by show _=_;rw[Hh.out,if_pos (Q9.out.2 (Ez.2 (.inl Ce)))]);rw[he];clear he Hh Q9 Ez;go_wp2;go_ret;exact⟨ZK (a:=5) Aw.out.symm,B0.trans Tc⟩
        ·have he:(y.nm.toList==x.nm.toList)=false:=by
          rw[beq_eq_false_iff_ne];intro h;exact Ce (by rw[nmL,nmL,(Z71 h).symm])
         have Pv:Hid (nmL x∈(L.take i).map nmL↔nmL x∈((L.take i).drop (k+1)).map nmL):=(by show _↔_;rw[Q9.out,Ez];simp[Ce]);rw[he];clear he Q9 Ez;go_wp2;go_roundw
         case rel=>exact⟨k+1,by omega,by push_cast;rfl,Tc,Pv⟩
         case measure=>simp[intOf];omega
 ·have Pb:Z2J a b c m=1:=by
   unfold Z2J at hR⊢;split at hR
   ·exact absurd rfl hR
   ·rw[if_neg (by assumption)]
  have hF:Hid (Zp a b c m L=1):=by show _=_;rw[Zp,firstV,if_neg hR,Pb]
  have I0:(okA a 9999&&okA b 9999&&okA c 9999&&decide (2<=m/\m<=4))=false:=by
   unfold Z2J at hR;split at hR
   ·exact absurd rfl hR
   ·rename_i h;simpa using h
  clear hR Pb;cases h1:okA a 9999 with
  |false=>
   simp only[h1] at Dz;clear I0 h1;go_enter func26,ntmps26
   go_wp2_with (first
    |(go_at_call 93;(with_reducible refine(Dz _).mono ?_);rintro e w2 ⟨rfl,rfl⟩)
    |(go_at_call 93;(with_reducible refine(Cx _).mono ?_);rintro e w2 ⟨rfl,rfl⟩)
    |(go_at_call 93;(with_reducible refine(F9 _).mono ?_);rintro e w2 ⟨rfl,rfl⟩)
    |(go_at_call 93;(with_reducible refine(J6 _).mono ?_);rintro e w2 ⟨rfl,rfl⟩))
   go_ret;exact⟨ZK (a:=1) hF.out.symm,((Ext.rfl' w).alloc _).alloc _⟩
  |true=>
   simp only[h1] at Dz;cases h2:okA b 9999 with
   |false=>
    simp only[h2] at Cx;clear I0 h1 h2;go_enter func26,ntmps26
    go_wp2_with (first
     |(go_at_call 93;(with_reducible refine(Dz _).mono ?_);rintro e w2 ⟨rfl,rfl⟩)
     |(go_at_call 93;(with_reducible refine(Cx _).mono ?_);rintro e w2 ⟨rfl,rfl⟩)
     |(go_at_call 93;(with_reducible refine(F9 _).mono ?_);rintro e w2 ⟨rfl,rfl⟩)
     |(go_at_call 93;(with_reducible refine(J6 _).mono ?_);rintro e w2 ⟨rfl,rfl⟩))
    go_ret;exact⟨ZK (a:=1) hF.out.symm,((Ext.rfl' w).alloc _).alloc _⟩
   |true=>
    simp only[h2] at Cx;cases h3:okA c 9999 with
    |false=>
     simp only[h3] at F9;clear I0 h1 h2 h3;go_enter func26,ntmps26
     go_wp2_with (first
      |(go_at_call 93;(with_reducible refine(Dz _).mono ?_);rintro e w2 ⟨rfl,rfl⟩)
      |(go_at_call 93;(with_reducible refine(Cx _).mono ?_);rintro e w2 ⟨rfl,rfl⟩)
      |(go_at_call 93;(with_reducible refine(F9 _).mono ?_);rintro e w2 ⟨rfl,rfl⟩)
      |(go_at_call 93;(with_reducible refine(J6 _).mono ?_);rintro e w2 ⟨rfl,rfl⟩))
     go_ret;exact⟨ZK (a:=1) hF.out.symm,((Ext.rfl' w).alloc _).alloc _⟩
    |true=>
     simp only[h3] at F9;have h4:decide (2<=m/\m<=4)=false:=(by rw[h1,h2,h3] at I0;simpa using I0);simp only[h4] at J6;clear I0 h1 h2 h3 h4;go_enter func26,ntmps26
     go_wp2_with (first
      |(go_at_call 93;(with_reducible refine(Dz _).mono ?_);rintro e w2 ⟨rfl,rfl⟩)
      |(go_at_call 93;(with_reducible refine(Cx _).mono ?_);rintro e w2 ⟨rfl,rfl⟩)
      |(go_at_call 93;(with_reducible refine(F9 _).mono ?_);rintro e w2 ⟨rfl,rfl⟩)
      |(go_at_call 93;(with_reducible refine(J6 _).mono ?_);rintro e w2 ⟨rfl,rfl⟩))
     go_ret;exact⟨ZK (a:=1) hF.out.symm,((Ext.rfl' w).alloc _).alloc _⟩
end Go.Proofs.Tryq
namespace Go.Proofs.Tryq
open Go Go.Nk Go.RowKit
set_option linter.all false
theorem Zib{P:Program}{ops:Array Oper}{R:Exit->Act->World->Prop}{t:Nat}{l:List Nat}(k:Nat){o:Oper}{v:Value}{a:Act}{w:World}{f:FuncId}{args:Array Value}(hs:okT ops t=true)(hi:ops[k]? =some o)(hf:Zil ops t l k=true)(hw:Region.wanted o (yielded ops a.tmps)=true)
 (hr:∀W,(execOp a.eval o).run P W= .ok (.enter f args) W)(hc:∀W,Ext w W->Calls P f args W fun e W'=>e= .returned v/\Ext W W')(h:LX P ops R t (k::l) (a.put o.dst v) w):LX P ops R t l a w:=
 Zim hs hi hf (.inl ⟨hw,fun W hW=>by unfold YV;rw[hr W];exact⟨Ext.rfl' W,hc W hW⟩⟩) h
theorem Zl5{P:Program}{ops:Array Oper}{R:Exit->Act->World->Prop}{t:Nat}{l:List Nat}(k:Nat){o:Oper}{v:Value}{a:Act}{w:World}(hs:okT ops t=true)(hi:ops[k]? =some o)(hf:Zil ops t l k=true)(hw:Region.wanted o (yielded ops a.tmps)=true)
 (hr:∀W,(execOp a.eval o).run P W= .ok (.value v) W)(h:LX P ops R t (k::l) (a.put o.dst v) w):LX P ops R t l a w:=
 Zim hs hi hf (.inl ⟨hw,fun W hW=>by unfold YV;rw[hr W];exact⟨rfl,Ext.rfl' W⟩⟩) h
def chooseR:List Int->List (List Int)
 |[]=>[[]]
 |x::t=>[]::((chooseR t).map (x::·)++(chooseR t).tail)
theorem chooseR_head:∀l,chooseR l=[]::(chooseR l).tail
 |[]=>rfl
 |_::_=>rfl
theorem chooseR_ne:∀(l:List Int)(c:List Int),c∈(chooseR l).tail->c≠[]
 |[],c,h=>by cases h
 |x::t,c,h=>by
  rcases List.mem_append.1 (show c∈(chooseR t).map (x::·)++(chooseR t).tail from h) with h|h
  ·obtain⟨y,_,rfl⟩:=List.mem_map.1 h;simp
  ·exact chooseR_ne t c h
theorem Zey{A:List Ap}:Zr A=1↔A=[]:=by
 unfold Zr;cases A with
 |nil=>simp
 |cons x t=>
  constructor
  ·intro h;split at h
   ·cases h
   ·simp at h
  ·intro h;cases h
def ZeS(n:Nat)(out:Nat->Bool)(i:Nat):List Int:=((List.range' i (n - i)).filter fun k=> !out k).map fun(k:Nat)=>(k:Int)
theorem chooseR_mem:∀(s c:List Int),c∈chooseR s->List.Sublist c s
 |[],c,h=>by cases List.mem_singleton.1 h;exact List.Sublist.refl _
 |x::t,c,h=>by
  rcases List.mem_cons.1 h with rfl|h
  ·exact List.nil_sublist _
  ·rcases List.mem_append.1 h with h|h
   ·obtain⟨y,hy,rfl⟩:=List.mem_map.1 h;exact(chooseR_mem t y hy).cons_cons x
   ·exact(chooseR_mem t c (List.mem_of_mem_tail h)).cons x
theorem mem_chooseR:∀(s c:List Int),List.Sublist c s->c∈chooseR s
 |[],c,h=>by rw[List.sublist_nil.1 h];simp[chooseR]
 |x::t,c,h=>by
  cases c with
  |nil=>exact List.mem_cons_self
  |cons y c=>
   rw[chooseR];refine List.mem_cons_of_mem _ (List.mem_append.2 ?_);cases h with
   |cons _ h=>
    right
    have:=mem_chooseR t _ h;rw[chooseR_head] at this;rcases List.mem_cons.1 this with h2|h2
    ·cases h2
    ·exact h2
   |cons_cons _ h=>exact .inl (List.mem_map.2 ⟨c,mem_chooseR t c h,rfl⟩)
end Go.Proofs.Tryq
namespace Go.Proofs.Tryq
set_option maxRecDepth 100000
set_option maxHeartbeats 4000000
open Go Go.Nk Go.RowKit
def Zm(f:Nat->Bool)(bt:Int->Int->Bool):Nat->Nat×Bool
 |0=>(0,false)
 |k+1=>if f k&&(!(Zm f bt k).2||bt (bl k).length (bl (Zm f bt k).1).length||((bl k).length==(bl (Zm f bt k).1).length&&Z1g k (Zm f bt k).1)) then(k,true) else Zm f bt k
theorem Z56(f:Nat->Bool)(bt:Int->Int->Bool):∀k,k<=256->(Zm f bt k).1<256
 |0,_=>by simp[Zm]
 |k+1,h=>by
  rw[Zm];split
  ·simp;omega
  ·exact Z56 f bt k (by omega)
theorem Z7K(r0 r1 r2 r3:Int)(base:Option Addr)(cap B n:Nat)(p:Nat->Nat)(C:Nat->Nat->Int×Int)(hn:n<=8)(ft:Bool)(g:FuncId)(bt:Int->Int->Bool)(w:World)(hm:Most w)(hC:Cv w B n p C)(hd:Deb w)
 (F6:∀args w,(callFunc g args).run prog w= .ok (.enter g args) w)(hgc:∀a b w,Calls prog g #[.int .i64 a,.int .i64 b] w fun e w'=>e= .returned (.bool (bt a b))/\w'=w):
 Calls prog 125 #[.agg #[.int .i64 r0,.int .i64 r1,.int .i64 r2,.int .i64 r3,.slice base n cap,.slice (some ⟨B,0,none⟩) n n],.bool ft,.func (.func g) #[] #[]] w fun e w'=>
  ∃v,e= .returned (.tuple #[v,.bool (Zm (fun k=>Zz C k n==ft) bt (2 ^ n)).2])/\OwnI w.heap.size w' v ((bl (Zm (fun k=>Zz C k n==ft) bt (2 ^ n)).1).map fun(i:Nat)=>(i:Int))/\Ext w w':=by
 have N9:=Z2Z hn;have Be:=fun v w'=>Z08 r0 r1 r2 r3 base n cap v hn w'
 go_enter func125,ntmps125;have hc:(w.alloc (.cells #[.int .i64 r0,.int .i64 r1,.int .i64 r2,.int .i64 r3,.slice base n cap,.slice (some ⟨B,0,none⟩) n n] 146)).heap[w.heap.size]? =some (.cells #[.int .i64 r0,.int .i64 r1,.int .i64 r2,.int .i64 r3,.slice base n cap,.slice (some ⟨B,0,none⟩) n n] 146):=by rw[Z3,if_pos rfl]
 have Al:=(Ext.rfl' w).alloc (.cells #[.int .i64 r0,.int .i64 r1,.int .i64 r2,.int .i64 r3,.slice base n cap,.slice (some ⟨B,0,none⟩) n n] 146)
 go_wp2_with (first
  |(go_at_call 106;refine(Be _ _).mono ?_;rintro e w2 ⟨rfl,A7⟩;have D2:=A7.get hc))
 have Au:=Al.trans A7;have Me:((2:Int) ^ n)=((2 ^ n:Nat):Int):=by push_cast;rfl
 have Do:2 ^ n<=256:=by omega
 rw[Me];clear Me N9 A7 hc Al;obtain⟨m,Hm⟩:∃m,m=2 ^ n:=⟨_,rfl⟩;rw[<-Hm] at Do⊢;replace Hm:=Lib.hid Hm;go_loopw [8,9,16] (fun vb vf vk wr=>∃k:Nat,k<=m/\vk= .int .i64 k/\vb= .int .i64 ((Zm (fun k=>Zz C k n==ft) bt k).1:Nat)/\vf= .bool (Zm (fun k=>Zz C k n==ft) bt k).2/\Ext w wr/\wr.heap[w.heap.size]? =some (.cells #[.int .i64 r0,.int .i64 r1,.int .i64 r2,.int .i64 r3,.slice base n cap,.slice (some ⟨B,0,none⟩) n n] 146)) (fun _ _ vk _=>m - (intOf vk).toNat)
 case atStart=>exact⟨0,Nat.zero_le _,rfl,rfl,rfl,Au,D2⟩
 case round=>
  obtain⟨k,hk,rfl,rfl,rfl,hE,Cy⟩:=hrel;clear Au D2;have c0:=Z0 Cy 0;have c1:=Z0 Cy 1;have c2:=Z0 Cy 2;have c3:=Z0 Cy 3;have c4:=Z0 Cy 4;have c5:=Z0 Cy 5;simp only[List.getElem?_toArray,List.getElem?_cons_zero,List.getElem?_cons_succ] at c0 c1 c2 c3 c4 c5;have Bh:=Z56 (fun k=>Zz C k n==ft) bt k (by omega);by_cases K4:k=m
  ·subst K4;have Y6:=fun w hd=>ZbS _ Bh w hd
   go_wp2_with (first|(go_at_call 158;refine(Y6 _ (hd.ext hE)).mono ?_;rintro e w9 ⟨v,rfl,hv,Cw⟩))
   go_ret2;rw[<-Hm.out];exact⟨v,rfl,hv.le hE.size,hE.trans Cw⟩
  ·have Ay:k<256:=by omega
   have Er:=Z7j r0 r1 r2 r3 (.slice base n cap) B n (k:Int) p C hn (by omega) wr (hm.ext hE) (hC.ext hE);have H:Hid (Zm (fun k=>Zz C k n==ft) bt (k+1)=if(Zz C k n==ft)&&(!(Zm (fun k=>Zz C k n==ft) bt k).2||bt (bl k).length (bl (Zm (fun k=>Zz C k n==ft) bt k).1).length||((bl k).length==(bl (Zm (fun k=>Zz C k n==ft) bt k).1).length&&Z1g k (Zm (fun k=>Zz C k n==ft) bt k).1)) then(k,true) else Zm (fun k=>Zz C k n==ft) bt k):=rfl;generalize Zm (fun k=>Zz C k n==ft) bt k=P at H Bh⊢;obtain⟨b,f⟩:=P;have Xq:(0:Int)<=(k:Int):=by omega
   have F5:(k:Int)<256:=by omega
   have Jo:(0:Int)<=(b:Int):=by omega
   have B4:(b:Int)<256:=by have:b<256:=Bh;omega
   have M0:=fun w=>Z7k k Ay w
   have Hr:=fun w=>Z7k b Bh w
   have Bu:=fun w=>hgc (bl k).length (bl b).length w
   have Kg:=fun w=>Z89 (k:Int) (b:Int) ⟨Xq,F5⟩ ⟨Jo,B4⟩ w
   simp only at H Hr Bu Kg;have hkm2:((k:Int)<(m:Int)):=by omega
   generalize (bl k).length=x at H M0 Bu;generalize (bl b).length=y at H Hr Bu;generalize Z1g (k:Int) (b:Int)=l at H Kg;generalize Zz C (k:Int) n=q at H Er;generalize bt (x:Int) (y:Int)=t at H Bu;by_cases hq:q=ft
   ·subst hq;cases f
    ·have e':Zm (fun k=>Zz C k n==q) bt (k+1)=(k,true):=(by rw[H];simp);replace e':=Lib.hid e';clear H
     go_wp2_with (first
     |(go_at_call 124;refine Er.mono ?_;rintro e w2 ⟨rfl,A7⟩;have hW:=hE.trans A7;have J7:=A7.get Cy;clear c0 c1 c2 c3 c4 c5)
     |(go_at_call 156;refine(M0 _).mono ?_;rintro e w2 ⟨rfl,rfl⟩)
     |(go_at_call 156;refine(Hr _).mono ?_;rintro e w2 ⟨rfl,rfl⟩)
     |(go_at_call 157;refine(Kg _).mono ?_;rintro e w2 ⟨rfl,rfl⟩)
     |(refine(Bu _).mono ?_;rintro e w2 ⟨rfl,rfl⟩))
     go_roundw
     case rel=>exact⟨k+1,by omega,by push_cast;rfl,by rw[e'.out],by rw[e'.out],hW,J7⟩
     case measure=>simp[intOf];omega
    ·cases t
     ·by_cases Ce:x=y
      ·subst Ce;have Gq:(((x:Int)==(x:Int)))=true:=(by simp);cases l
       ·have e':Zm (fun k=>Zz C k n==q) bt (k+1)=(b,true):=(by rw[H];simp);replace e':=Lib.hid e';clear H
        go_wp2_with (first
        |(go_at_call 124;refine Er.mono ?_;rintro e w2 ⟨rfl,A7⟩;have hW:=hE.trans A7;have J7:=A7.get Cy;clear c0 c1 c2 c3 c4 c5)
        |(go_at_call 156;refine(M0 _).mono ?_;rintro e w2 ⟨rfl,rfl⟩)
        |(go_at_call 156;refine(Hr _).mono ?_;rintro e w2 ⟨rfl,rfl⟩)
        |(go_at_call 157;refine(Kg _).mono ?_;rintro e w2 ⟨rfl,rfl⟩)
        |(refine(Bu _).mono ?_;rintro e w2 ⟨rfl,rfl⟩))
        go_roundw
        case rel=>exact⟨k+1,by omega,by push_cast;rfl,by rw[e'.out],by rw[e'.out],hW,J7⟩
        case measure=>simp[intOf];omega
       ·have e':Zm (fun k=>Zz C k n==q) bt (k+1)=(k,true):=(by rw[H];simp);replace e':=Lib.hid e';clear H
        go_wp2_with (first
        |(go_at_call 124;refine Er.mono ?_;rintro e w2 ⟨rfl,A7⟩;have hW:=hE.trans A7;have J7:=A7.get Cy;clear c0 c1 c2 c3 c4 c5)
        |(go_at_call 156;refine(M0 _).mono ?_;rintro e w2 ⟨rfl,rfl⟩)
        |(go_at_call 156;refine(Hr _).mono ?_;rintro e w2 ⟨rfl,rfl⟩)
        |(go_at_call 157;refine(Kg _).mono ?_;rintro e w2 ⟨rfl,rfl⟩)
        |(refine(Bu _).mono ?_;rintro e w2 ⟨rfl,rfl⟩))
        go_roundw
        case rel=>exact⟨k+1,by omega,by push_cast;rfl,by rw[e'.out],by rw[e'.out],hW,J7⟩
        case measure=>simp[intOf];omega
      ·have Gq:(((x:Int)==(y:Int)))=false:=(by simp;omega);have e':Zm (fun k=>Zz C k n==q) bt (k+1)=(b,true):=(by rw[H];simp[Ce]);replace e':=Lib.hid e';clear H
       go_wp2_with (first
       |(go_at_call 124;refine Er.mono ?_;rintro e w2 ⟨rfl,A7⟩;have hW:=hE.trans A7;have J7:=A7.get Cy;clear c0 c1 c2 c3 c4 c5)
       |(go_at_call 156;refine(M0 _).mono ?_;rintro e w2 ⟨rfl,rfl⟩)
       |(go_at_call 156;refine(Hr _).mono ?_;rintro e w2 ⟨rfl,rfl⟩)
       |(go_at_call 157;refine(Kg _).mono ?_;rintro e w2 ⟨rfl,rfl⟩)
       |(refine(Bu _).mono ?_;rintro e w2 ⟨rfl,rfl⟩))
       go_roundw
       case rel=>exact⟨k+1,by omega,by push_cast;rfl,by rw[e'.out],by rw[e'.out],hW,J7⟩
       case measure=>simp[intOf];omega
     ·have e':Zm (fun k=>Zz C k n==q) bt (k+1)=(k,true):=(by rw[H];simp);replace e':=Lib.hid e';clear H
      go_wp2_with (first
      |(go_at_call 124;refine Er.mono ?_;rintro e w2 ⟨rfl,A7⟩;have hW:=hE.trans A7;have J7:=A7.get Cy;clear c0 c1 c2 c3 c4 c5)
      |(go_at_call 156;refine(M0 _).mono ?_;rintro e w2 ⟨rfl,rfl⟩)
      |(go_at_call 156;refine(Hr _).mono ?_;rintro e w2 ⟨rfl,rfl⟩)
      |(go_at_call 157;refine(Kg _).mono ?_;rintro e w2 ⟨rfl,rfl⟩)
      |(refine(Bu _).mono ?_;rintro e w2 ⟨rfl,rfl⟩))
      go_roundw
      case rel=>exact⟨k+1,by omega,by push_cast;rfl,by rw[e'.out],by rw[e'.out],hW,J7⟩
      case measure=>simp[intOf];omega
   ·cases q<;>cases ft<;>first
     |exact absurd rfl hq
     |(
       have e':=H.trans (if_neg (by simp));replace e':=Lib.hid e';clear H
       go_wp2_with (first
       |(go_at_call 124;refine Er.mono ?_;rintro e w2 ⟨rfl,A7⟩;have hW:=hE.trans A7;have J7:=A7.get Cy;clear c0 c1 c2 c3 c4 c5)
       |(go_at_call 156;refine(M0 _).mono ?_;rintro e w2 ⟨rfl,rfl⟩)
       |(go_at_call 156;refine(Hr _).mono ?_;rintro e w2 ⟨rfl,rfl⟩)
       |(go_at_call 157;refine(Kg _).mono ?_;rintro e w2 ⟨rfl,rfl⟩)
       |(refine(Bu _).mono ?_;rintro e w2 ⟨rfl,rfl⟩))
       go_roundw
       case rel=>exact⟨k+1,by omega,by push_cast;rfl,by rw[e'.out],by rw[e'.out],hW,J7⟩
       case measure=>simp[intOf];omega)
end Go.Proofs.Tryq
namespace Go.Proofs.Tryq
set_option maxRecDepth 100000
set_option maxHeartbeats 1000000
open Go Go.Nk Go.RowKit
theorem ZbZ(a b:Int)(w:World):Calls prog 126 #[.int .i64 a,.int .i64 b] w fun e w'=>e= .returned (.bool (decide (a<b)))/\w'=w:=by
 go_enter func126,ntmps126;go_wp2;go_ret;exact⟨rfl,rfl⟩
theorem Zc0(a b:Int)(w:World):Calls prog 128 #[.int .i64 a,.int .i64 b] w fun e w'=>e= .returned (.bool (decide (b<a)))/\w'=w:=by
 go_enter func128,ntmps128;go_wp2;go_ret;exact⟨rfl,rfl⟩
def Z7L(r0 r1 r2 r3:Int)(S:List Rs):List Int:=(bl (Zm (fun k=>Zz (cvS r0 r1 r2 r3 (S.map Ze)) k S.length==false) (fun a b=>decide (a<b)) (2 ^ S.length)).1).map fun(i:Nat)=>(i:Int)
def Z7M(r0 r1 r2 r3:Int)(S:List Rs):List Int:=(bl (Zm (fun k=>Zz (cvS r0 r1 r2 r3 (S.map Ze)) k S.length==true) (fun a b=>decide (b<a)) (2 ^ S.length)).1).map fun(i:Nat)=>(i:Int)
theorem Zas(r0 r1 r2 r3:Int)(base:Option Addr)(n cap:Nat)(S:List Rs)(w:World)(A2:S.length=n)(hS:RawS w base S)(hm:Most w)(hd:Deb w):
 Calls prog 66 #[.agg #[.int .i64 r0,.int .i64 r1,.int .i64 r2,.int .i64 r3,.slice base n cap]] w fun e w'=>∃v,e= .returned (.tuple #[v,.int .i64 (ZC r0 r1 r2 r3 S)])/\OwnI w.heap.size w' v (if ZC r0 r1 r2 r3 S=0 then Z7L r0 r1 r2 r3 S else[])/\Ext w w':=by
 have C4:=Z0U r0 r1 r2 r3 base n cap S;simp only[Zh] at C4;have hb:(w.alloc (.cells #[.int .i64 r0,.int .i64 r1,.int .i64 r2,.int .i64 r3,.slice base n cap] 70)).heap[w.heap.size]? =some (.cells #[.int .i64 r0,.int .i64 r1,.int .i64 r2,.int .i64 r3,.slice base n cap] 70):=by rw[Z3,if_pos rfl]
 have Al:Ext w _:=(Ext.rfl' w).alloc (.cells #[.int .i64 r0,.int .i64 r1,.int .i64 r2,.int .i64 r3,.slice base n cap] 70);have F3:=C4 _ A2 (hS.ext Al);clear C4;by_cases D1:ZC r0 r1 r2 r3 S=0
 ·obtain⟨_,h8,Az⟩:=Z0i D1;rw[if_pos D1];rw[D1] at F3⊢;clear D1;have Cu:(S.map Ze).length=n:=by rw[List.length_map,A2]
  have Dy:n<=8:=by omega
  have Jn:=fun w hS=>Z2c r0 r1 r2 r3 base cap w (S.map Ze) n Cu Dy hS
  have Oh:=fun B p w hm hC hd=>Z7K r0 r1 r2 r3 base cap B n p (cvS r0 r1 r2 r3 (S.map Ze)) Dy false 126 (fun a b=>decide (a<b)) w hm hC hd (fun args w=>by simp[go_sem]) ZbZ
  simp only[Zh] at Jn;go_enter func66,ntmps66
  go_wp2_with (first
   |(go_at_call 62;refine F3.mono ?_;rintro e w2 ⟨rfl,A7⟩;have Au:=Al.trans A7;have An:=A7.get hb;have q0:=Z0 An 0;have q1:=Z0 An 1;have q2:=Z0 An 2;have q3:=Z0 An 3;have q4:=Z0 An 4;simp only[List.getElem?_toArray,List.getElem?_cons_zero,List.getElem?_cons_succ] at q0 q1 q2 q3 q4)
   |(go_at_call 123;refine(Jn _ (Z4J (hS.ext Au) Az)).mono ?_;rintro e w3 ⟨B,p,rfl,Ar,hC,_,_⟩;have B0:=Au.trans Ar)
   |(go_at_call 125;refine(Oh B p _ (hm.ext B0) hC (hd.ext B0)).mono ?_;rintro e w4 ⟨v,rfl,hv,C7⟩))
  go_ret2;exact⟨v,rfl,by rw[Z7L,A2];exact hv.le B0.size,B0.trans C7⟩
 ·rw[if_neg D1];have hx:(ZC r0 r1 r2 r3 S !=0)=true:=by simpa using D1
  clear D1;generalize ZC r0 r1 r2 r3 S=x at hx F3⊢;go_enter func66,ntmps66
  go_wp2_with (first
   |(go_at_call 62;refine F3.mono ?_;rintro e w2 ⟨rfl,A7⟩;have Au:=Al.trans A7))
  go_ret2;exact⟨_,rfl,World.ownsRow_nil _ _ _ _,Au⟩
theorem Zat(r0 r1 r2 r3:Int)(base:Option Addr)(n cap:Nat)(S:List Rs)(w:World)(A2:S.length=n)(hS:RawS w base S)(hm:Most w)(hd:Deb w):
 Calls prog 68 #[.agg #[.int .i64 r0,.int .i64 r1,.int .i64 r2,.int .i64 r3,.slice base n cap]] w fun e w'=>∃v,e= .returned (.tuple #[v,.int .i64 (ZC r0 r1 r2 r3 S)])/\OwnI w.heap.size w' v (if ZC r0 r1 r2 r3 S=0 then Z7M r0 r1 r2 r3 S else[])/\Ext w w':=by
 have C4:=Z0U r0 r1 r2 r3 base n cap S;simp only[Zh] at C4;have hb:(w.alloc (.cells #[.int .i64 r0,.int .i64 r1,.int .i64 r2,.int .i64 r3,.slice base n cap] 70)).heap[w.heap.size]? =some (.cells #[.int .i64 r0,.int .i64 r1,.int .i64 r2,.int .i64 r3,.slice base n cap] 70):=by rw[Z3,if_pos rfl]
 have Al:Ext w _:=(Ext.rfl' w).alloc (.cells #[.int .i64 r0,.int .i64 r1,.int .i64 r2,.int .i64 r3,.slice base n cap] 70);have F3:=C4 _ A2 (hS.ext Al);clear C4;by_cases D1:ZC r0 r1 r2 r3 S=0
 ·obtain⟨_,h8,Az⟩:=Z0i D1;rw[if_pos D1];rw[D1] at F3⊢;clear D1;have Cu:(S.map Ze).length=n:=by rw[List.length_map,A2]
  have Dy:n<=8:=by omega
  have Jn:=fun w hS=>Z2c r0 r1 r2 r3 base cap w (S.map Ze) n Cu Dy hS
  have Oh:=fun B p w hm hC hd=>Z7K r0 r1 r2 r3 base cap B n p (cvS r0 r1 r2 r3 (S.map Ze)) Dy true 128 (fun a b=>decide (b<a)) w hm hC hd (fun args w=>by simp[go_sem]) Zc0
  simp only[Zh] at Jn;go_enter func68,ntmps68
  go_wp2_with (first
   |(go_at_call 62;refine F3.mono ?_;rintro e w2 ⟨rfl,A7⟩;have Au:=Al.trans A7;have An:=A7.get hb;have q0:=Z0 An 0;have q1:=Z0 An 1;have q2:=Z0 An 2;have q3:=Z0 An 3;have q4:=Z0 An 4;simp only[List.getElem?_toArray,List.getElem?_cons_zero,List.getElem?_cons_succ] at q0 q1 q2 q3 q4)
   |(go_at_call 123;refine(Jn _ (Z4J (hS.ext Au) Az)).mono ?_;rintro e w3 ⟨B,p,rfl,Ar,hC,_,_⟩;have B0:=Au.trans Ar)
   |(go_at_call 125;refine(Oh B p _ (hm.ext B0) hC (hd.ext B0)).mono ?_;rintro e w4 ⟨v,rfl,hv,C7⟩))
  go_ret2;exact⟨v,rfl,by rw[Z7M,A2];exact hv.le B0.size,B0.trans C7⟩
 ·rw[if_neg D1];have hx:(ZC r0 r1 r2 r3 S !=0)=true:=by simpa using D1
  clear D1;generalize ZC r0 r1 r2 r3 S=x at hx F3⊢;go_enter func68,ntmps68
  go_wp2_with (first
   |(go_at_call 62;refine F3.mono ?_;rintro e w2 ⟨rfl,A7⟩;have Au:=Al.trans A7))
  go_ret2;exact⟨_,rfl,World.ownsRow_nil _ _ _ _,Au⟩
def Z1e(r0 r1 r2 r3:Int)(S:List Rs)(k:Int):Int:=firstV [ZC r0 r1 r2 r3 S,Z6r S.length k]
def Z68(r2 r3:Int)(s:Rs):Int×Int:=(lo s.m s.wi s.li r2 r3,hi s.M s.wi s.li r2 r3)
def Zau(r0 r1 r2 r3:Int)(S:List Rs)(k:Int):Int×Int:=if Z1e r0 r1 r2 r3 S k=0 then(match S[k.toNat]? with|some s=>Z68 r2 r3 s|none=>(0,0)) else(0,0)
theorem Z69(r0 r1 r2 r3:Int)(base:Option Addr)(n cap:Nat)(S:List Rs)(k:Int)(w:World)(A2:S.length=n)(Tb:n<=20)(hS:RawS w base S):
 Calls prog 49 #[.agg #[.int .i64 r0,.int .i64 r1,.int .i64 r2,.int .i64 r3,.slice base n cap],.int .i64 k] w fun e w'=>e= .returned (.tuple #[.agg #[.int .i64 (Zau r0 r1 r2 r3 S k).1,.int .i64 (Zau r0 r1 r2 r3 S k).2],.int .i64 (Z1e r0 r1 r2 r3 S k)])/\Ext w w':=by
 have Ar:Ext w ((((w.alloc (.cells #[.int .i64 r0,.int .i64 r1,.int .i64 r2,.int .i64 r3,.slice base n cap] 70)).alloc (.cells #[.int .i64 k] 3)).alloc (.cells #[.int .i64 0,.int .i64 0] 48)).alloc (.cells #[.func (.func 107) #[] #[.pointer (some ⟨w.heap.size,0,none⟩)],.func (.func 108) #[] #[.pointer (some ⟨w.heap.size+1,0,none⟩),.pointer (some ⟨w.heap.size,0,none⟩)]] 127)):=((((Ext.rfl' w).alloc _).alloc _).alloc _).alloc _;have hb:((((w.alloc (.cells #[.int .i64 r0,.int .i64 r1,.int .i64 r2,.int .i64 r3,.slice base n cap] 70)).alloc (.cells #[.int .i64 k] 3)).alloc (.cells #[.int .i64 0,.int .i64 0] 48)).alloc (.cells #[.func (.func 107) #[] #[.pointer (some ⟨w.heap.size,0,none⟩)],.func (.func 108) #[] #[.pointer (some ⟨w.heap.size+1,0,none⟩),.pointer (some ⟨w.heap.size,0,none⟩)]] 127)).heap[w.heap.size]? =some (.cells #[.int .i64 r0,.int .i64 r1,.int .i64 r2,.int .i64 r3,.slice base n cap] 70):=by
  simp only[Z3,Z2];rw[if_neg (by omega),if_neg (by omega),if_neg (by omega),if_pos trivial]
 have hk:((((w.alloc (.cells #[.int .i64 r0,.int .i64 r1,.int .i64 r2,.int .i64 r3,.slice base n cap] 70)).alloc (.cells #[.int .i64 k] 3)).alloc (.cells #[.int .i64 0,.int .i64 0] 48)).alloc (.cells #[.func (.func 107) #[] #[.pointer (some ⟨w.heap.size,0,none⟩)],.func (.func 108) #[] #[.pointer (some ⟨w.heap.size+1,0,none⟩),.pointer (some ⟨w.heap.size,0,none⟩)]] 127)).heap[w.heap.size+1]? =some (.cells #[.int .i64 k] 3):=by
  simp only[Z3,Z2];rw[if_neg (by omega),if_neg (by omega),if_pos trivial]
 have hz:((((w.alloc (.cells #[.int .i64 r0,.int .i64 r1,.int .i64 r2,.int .i64 r3,.slice base n cap] 70)).alloc (.cells #[.int .i64 k] 3)).alloc (.cells #[.int .i64 0,.int .i64 0] 48)).alloc (.cells #[.func (.func 107) #[] #[.pointer (some ⟨w.heap.size,0,none⟩)],.func (.func 108) #[] #[.pointer (some ⟨w.heap.size+1,0,none⟩),.pointer (some ⟨w.heap.size,0,none⟩)]] 127)).heap[w.heap.size+1+1]? =some (.cells #[.int .i64 0,.int .i64 0] 48):=by
  simp only[Z3,Z2];rw[if_neg (by omega),if_pos trivial]
 have hf:((((w.alloc (.cells #[.int .i64 r0,.int .i64 r1,.int .i64 r2,.int .i64 r3,.slice base n cap] 70)).alloc (.cells #[.int .i64 k] 3)).alloc (.cells #[.int .i64 0,.int .i64 0] 48)).alloc (.cells #[.func (.func 107) #[] #[.pointer (some ⟨w.heap.size,0,none⟩)],.func (.func 108) #[] #[.pointer (some ⟨w.heap.size+1,0,none⟩),.pointer (some ⟨w.heap.size,0,none⟩)]] 127)).heap[w.heap.size+1+1+1]? =some (.cells #[.func (.func 107) #[] #[.pointer (some ⟨w.heap.size,0,none⟩)],.func (.func 108) #[] #[.pointer (some ⟨w.heap.size+1,0,none⟩),.pointer (some ⟨w.heap.size,0,none⟩)]] 127):=by
  simp only[Z3,Z2];rw[if_pos trivial]
 have Gj:=fun w4 (Ar:Ext w w4)(hb:w4.heap[w.heap.size]? =some (.cells #[.int .i64 r0,.int .i64 r1,.int .i64 r2,.int .i64 r3,.slice base n cap] 70))(hk:w4.heap[w.heap.size+1]? =some (.cells #[.int .i64 k] 3))(hf:w4.heap[w.heap.size+1+1+1]? =some (.cells #[.func (.func 107) #[] #[.pointer (some ⟨w.heap.size,0,none⟩)],.func (.func 108) #[] #[.pointer (some ⟨w.heap.size+1,0,none⟩),.pointer (some ⟨w.heap.size,0,none⟩)]] 127))=>
  Z1S (w.heap.size+1+1+1) 2 2 (fun i=>if i=0 then 107 else 108) (fun i=> #[]) (fun i=>if i=0 then #[.pointer (some ⟨w.heap.size,0,none⟩)] else #[.pointer (some ⟨w.heap.size+1,0,none⟩),.pointer (some ⟨w.heap.size,0,none⟩)]) [ZC r0 r1 r2 r3 S,Z6r n k] rfl (by omega) w4 (by
   intro i hi;rw[Z0 hf];obtain rfl|rfl:i=0\/i=1:=by omega
   ·rfl
   ·rfl) (by
   intro i hi args w';obtain rfl|rfl:i=0\/i=1:=by omega
   ·simp[go_sem]
   ·simp[go_sem]) (by
   intro i x hx w' hE'
   match i,hx with
   |0,hx=>
    obtain rfl:=Option.some.inj hx;exact ZcT r0 r1 r2 r3 base n cap S w' A2 (hS.ext (Ar.trans hE')) _ (hE'.get hb)
   |1,hx=>
    obtain rfl:=Option.some.inj hx;exact ZcV r0 r1 r2 r3 base n cap Tb w' _ (hE'.get hb) _ k (hE'.cellS (by rw[Z0 hk];rfl)))
 have I1:firstV [ZC r0 r1 r2 r3 S,Z6r n k]=Z1e r0 r1 r2 r3 S k:=by rw[Z1e,A2]
 rw[I1] at Gj;clear I1;have Eh:w.heap.size<=w.heap.size+1+1:=by omega
 have Ji:=Gj _ Ar hb hk hf;clear Gj hf;by_cases D1:Z1e r0 r1 r2 r3 S k=0
 ·have Am:0<=k/\k<n:=by
   have h2:=firstV_all D1 (Z6r S.length k) (by simp);unfold Z6r at h2;rw[A2] at h2;split at h2
   ·assumption
   ·omega
  obtain⟨sh,Bg⟩:∃sh,S[k.toNat]? =some sh:=⟨_,List.getElem?_eq_getElem (by omega)⟩;rw[Zau,if_pos D1,Bg];simp only;rw[D1] at Ji⊢;clear D1;obtain⟨b,off,rfl,Bh,hat⟩:=hS _ _ Bg;have hwd:=fun w Bh hat=>Z39 r0 r1 r2 r3 sh.a sh.m sh.M sh.wi sh.li k b off n cap w Am.1 (by omega) Bh hat
  simp only[Zg,Z83] at hwd;go_enter func49,ntmps49
  go_wp2_with (first
   |(go_at_call 90;refine Ji.mono ?_;rintro e w5 ⟨rfl,B0⟩;have C7:=Ar.trans B0;have Ho:=B0.get hb;have hk5:=B0.get hk;have Mf:=B0.get hz;have q0:=Z0 Ho 0;have q1:=Z0 Ho 1;have q2:=Z0 Ho 2;have q3:=Z0 Ho 3;have q4:=Z0 Ho 4;have q5:=Z0 hk5 0;simp only[List.getElem?_toArray,List.getElem?_cons_zero,List.getElem?_cons_succ] at q0 q1 q2 q3 q4 q5;clear hb hk hz)
   |(go_at_call 111;refine(hwd _ (C7.lt Bh) ⟨C7.cellS hat.c0,C7.cellS hat.c1,C7.cellS hat.c2,C7.cellS hat.c3,C7.cellS hat.c4⟩).mono ?_;rintro e w6 ⟨rfl,hG⟩;have H5:=C7.trans hG.ext;have Td:=hG.ext.get Mf;have p:=Zc Td;have p0:=p.1;have p1:=p.2.1;have p2:=p.2.2.1;have p3:=p.2.2.2;clear p))
  have hh:=Zc (set_pair Td (.int .i64 (lo sh.m sh.wi sh.li r2 r3)) (.int .i64 (hi sh.M sh.wi sh.li r2 r3)));have Te:=hh.1;have Tf:=hh.2.1;refine bodyPost_ret (v:= .tuple #[.agg #[.int .i64 (lo sh.m sh.wi sh.li r2 r3),.int .i64 (hi sh.M sh.wi sh.li r2 r3)],.int .i64 0]) ((Z01 rfl _ _ _).trans ?_) rfl ⟨rfl,(H5.setCell _ _ Eh).setCell _ _ Eh⟩;simp[go_sem,Te,Tf]
 ·have hx:(Z1e r0 r1 r2 r3 S k !=0)=true:=by simpa using D1
  rw[Zau,if_neg D1];clear D1;generalize Z1e r0 r1 r2 r3 S k=x at hx Ji⊢;go_enter func49,ntmps49
  go_wp2_with (first
   |(go_at_call 90;refine Ji.mono ?_;rintro e w5 ⟨rfl,B0⟩;have C7:=Ar.trans B0;have Mf:=B0.get hz;have p:=Zc Mf;have p0:=p.1;have p1:=p.2.1;have p2:=p.2.2.1;have p3:=p.2.2.2;clear p hb hk hz))
  have hh:=Zc (set_pair Mf (.int .i64 0) (.int .i64 0));have Te:=hh.1;have Tf:=hh.2.1;refine bodyPost_ret (v:= .tuple #[.agg #[.int .i64 0,.int .i64 0],.int .i64 x]) ((Z01 rfl _ _ _).trans ?_) rfl ⟨rfl,(C7.setCell _ _ Eh).setCell _ _ Eh⟩;simp[go_sem,Te,Tf]
end Go.Proofs.Tryq
