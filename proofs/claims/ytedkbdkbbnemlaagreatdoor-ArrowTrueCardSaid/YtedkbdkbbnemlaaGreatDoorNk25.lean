import Derived.Test.YtedkbdkbbnemlaaGreatDoorNk24
import Derived.Lib.Hide
set_option linter.all false
namespace Go.Proofs.Tryq
set_option maxRecDepth 100000
set_option maxHeartbeats 4000000
open Go Go.Nk Go.RowKit
theorem ZdG{x y:Sf}(h:nmL x=nmL y):x.nm=y.nm:=by
 have h2:x.nm.data=y.nm.data:=Array.toList_inj.1 h;cases hx:x.nm;cases hy:y.nm;rw[hx,hy] at h2;simp at h2;rw[h2]
theorem Z71{s t:ByteArray}(h:s.toList=t.toList):s=t:=by
 rw[ByteArray.toList_eq,ByteArray.toList_eq] at h;cases s;cases t;simp at h;rw[h]
theorem Z1P(a b c m:Int)(base:Option Addr)(n cap:Nat)(L:List Sf)(w:World)(A2:L.length=n)(Td:n<=1000000)(hS:RawA w base L):
 Calls prog 26 #[.agg #[.int .i64 a,.int .i64 b,.int .i64 c,.int .i64 m,.slice base n cap]] w fun e w'=>e= .returned (.int .i64 (Zp a b c m L))/\Ext w w':=by
 have hr:∀n hi w,Calls prog 93 #[.int .i64 n,.int .i64 0,.int .i64 hi] w fun e w'=>e= .returned (.bool (okA n hi))/\w'=w:=fun n hi w=>Z4r n 0 hi w
 have E7:=fun w=>hr a 9999 w;have Cj:=fun w=>hr b 9999 w;have Ga:=fun w=>hr c 9999 w;have I9:=fun w=>Z4r m 2 4 w
 clear hr;by_cases hR:Z2J a b c m=0
 ·have Ia:okA a 9999=true/\okA b 9999=true/\okA c 9999=true/\decide (2<=m/\m<=4)=true:=by
   unfold Z2J at hR;split at hR
   ·rename_i h;simp only[Bool.and_eq_true] at h;exact⟨h.1.1.1,h.1.1.2,h.1.2,h.2⟩
   ·cases hR
  simp only[Ia.1] at E7;simp only[Ia.2.1] at Cj;simp only[Ia.2.2.1] at Ga;simp only[Ia.2.2.2] at I9;have hF:Hid (Zp a b c m L=Zj L):=by
   show _=_;rw[Zp,firstV,if_pos hR];simp only[firstV];split
   ·rename_i h;exact h.symm
   ·rfl
  clear hR Ia;by_cases h9:9<L.length
  ·have H:Hid (Zp a b c m L=2):=by show _=_;rw[hF.out,Zj,if_pos h9]
   have Kl:(9:Int)<(n:Int):=by omega
   clear h9 hF;go_enter func26,ntmps26
   go_wp2_with (first
    |(go_at_call 93;(with_reducible refine(E7 _).mono ?_);rintro e w2 ⟨rfl,rfl⟩)
    |(go_at_call 93;(with_reducible refine(Cj _).mono ?_);rintro e w2 ⟨rfl,rfl⟩)
    |(go_at_call 93;(with_reducible refine(Ga _).mono ?_);rintro e w2 ⟨rfl,rfl⟩)
    |(go_at_call 93;(with_reducible refine(I9 _).mono ?_);rintro e w2 ⟨rfl,rfl⟩))
   go_ret;exact⟨ZK (a:=2) H.out.symm,((Ext.rfl' w).alloc _).alloc _⟩
  ·have H:Hid (Zp a b c m L=shA ((L.take 0).map nmL) (L.drop 0)):=by show _=_;rw[hF.out,Zj,if_neg h9];rfl
   have Kl:(n:Int)<=9:=by omega
   clear h9 hF;go_enter func26,ntmps26
   go_wp2_with (first
    |(go_at_call 93;(with_reducible refine(E7 _).mono ?_);rintro e w2 ⟨rfl,rfl⟩)
    |(go_at_call 93;(with_reducible refine(Cj _).mono ?_);rintro e w2 ⟨rfl,rfl⟩)
    |(go_at_call 93;(with_reducible refine(Ga _).mono ?_);rintro e w2 ⟨rfl,rfl⟩)
    |(go_at_call 93;(with_reducible refine(I9 _).mono ?_);rintro e w2 ⟨rfl,rfl⟩))
   clear E7 Cj Ga I9;have Bf:=((Ext.rfl' w).alloc (.cells #[.int .i64 a,.int .i64 b,.int .i64 c,.int .i64 m,.slice base n cap] 26)).alloc (.cells #[.int .i64 a,.int .i64 b,.int .i64 c,.int .i64 m] 23);go_loopw [4] (fun v wr=>∃i:Nat,i<=n/\v= .int .i64 i/\wr.heap[w.heap.size]? =some (.cells #[.int .i64 a,.int .i64 b,.int .i64 c,.int .i64 m,.slice base n cap] 26)/\Ext w wr/\Hid (Zp a b c m L=shA ((L.take i).map nmL) (L.drop i))) (fun v _=>n - (intOf v).toNat)
   case atStart=>exact⟨0,Nat.zero_le _,rfl,by simp only[Z3,Z2];rw[if_neg (by omega),if_pos trivial],Bf,H⟩
   case round=>
    obtain⟨i,hi,rfl,hr,hE,hH⟩:=hrel;clear Bf H;have q4:=Z0 hr 4;simp only[List.getElem?_toArray,List.getElem?_cons_zero,List.getElem?_cons_succ] at q4;have hlr:=Z5 hr;by_cases Aj:i=n
    ·subst Aj;have hz:Hid (Zp a b c m L=0):=(by show _=_;rw[hH.out,<-A2,List.drop_length];rfl);clear hH;go_wp2;go_ret;exact⟨ZK (a:=0) hz.out.symm,hE⟩
    ·have A3:i<n:=(by omega);obtain⟨x,hx⟩:∃x,L[i]? =some x:=⟨_,List.getElem?_eq_getElem (by omega)⟩;have Ac:Hid (Zp a b c m L=if Z2d x.nm=false then 4 else if nmL x∈(L.take i).map nmL then 5 else if Z8b x=false then 1 else shA ((L.take (i+1)).map nmL) (L.drop (i+1))):=by
      show _=_;rw[hH.out,Z0b hx,shA,Z0G hx,List.map_append];rfl
     have Fb:=hS.ext hE;obtain⟨b',off,rfl,hb,⟨k0,k1,k2,k3,k4,k5,k6⟩,Km⟩:=Fb i x hx;have Ff:=fun w=>Z70 x.nm w Km
     have C3:(0:Int)<=(i:Int):=(by omega);cases hnb:Z2d x.nm
     ·have Aw:Hid (Zp a b c m L=4):=(by show _=_;rw[Ac.out,if_pos hnb]);rw[hnb] at Ff;clear hnb Ac hH hx
      go_wp2_with (first
       |(go_at_call 94;refine(Ff _).mono ?_;rintro e w2 ⟨rfl,rfl⟩))
      go_ret;exact⟨ZK (a:=4) Aw.out.symm,hE.alloc _⟩
     ·rw[hnb] at Ff;have Hv:Hid (Zp a b c m L=if nmL x∈(L.take i).map nmL then 5 else if Z8b x=false then 1 else shA ((L.take (i+1)).map nmL) (L.drop (i+1))):=(by show _=_;rw[Ac.out,if_neg (by rw[hnb];simp)]);clear Ac hH hnb
      go_wp2_with (first
       |(go_at_call 94;refine(Ff _).mono ?_;rintro e w2 ⟨rfl,Dp⟩;subst Dp))
      have B6:=hE.alloc (.cells #[.string x.nm,.int .i64 x.a0,.int .i64 x.a1,.int .i64 x.b0,.int .i64 x.b1,.int .i64 x.c0,.int .i64 x.c1] 51);have Y7:(wr.alloc (.cells #[.string x.nm,.int .i64 x.a0,.int .i64 x.a1,.int .i64 x.b0,.int .i64 x.b1,.int .i64 x.c0,.int .i64 x.c1] 51)).heap[wr.heap.size]? =some (.cells #[.string x.nm,.int .i64 x.a0,.int .i64 x.a1,.int .i64 x.b0,.int .i64 x.b1,.int .i64 x.c0,.int .i64 x.c1] 51):=(by rw[Z3,if_pos rfl]);have hr5:=((Ext.rfl' wr).alloc (.cells #[.string x.nm,.int .i64 x.a0,.int .i64 x.a1,.int .i64 x.b0,.int .i64 x.b1,.int .i64 x.c0,.int .i64 x.c1] 51)).get hr;have HN:Hid (nmL x∈(L.take i).map nmL↔nmL x∈((L.take i).drop 0).map nmL):=Iff.rfl;clear Ff k0 k1 k2 k3 k4 k5 k6 hr q4;have Oi:=Fb.ext ((Ext.rfl' wr).alloc (.cells #[.string x.nm,.int .i64 x.a0,.int .i64 x.a1,.int .i64 x.b0,.int .i64 x.b1,.int .i64 x.c0,.int .i64 x.c1] 51));generalize World.alloc wr _=V at Oi B6 Y7 hr5⊢;obtain⟨wo,rfl⟩:∃wo:World,wo=wr:=⟨_,rfl⟩;go_loopw [6] (fun v wi=>∃k:Nat,k<=i/\v= .int .i64 k/\Ext V wi/\Hid (nmL x∈(L.take i).map nmL↔nmL x∈((L.take i).drop k).map nmL)) (fun v _=>i - (intOf v).toNat)
      case atStart=>exact⟨0,Nat.zero_le _,rfl,Ext.rfl' V,HN⟩
      case round=>
       obtain⟨k,hk,rfl,Qi,Qj⟩:=hrel;clear HN;have hrk:=Qi.get hr5;have Mq:=Qi.get Y7;have q4:=Z0 hrk 4;simp only[List.getElem?_toArray,List.getElem?_cons_zero,List.getElem?_cons_succ] at q4;by_cases Fc:k=i
       ·subst Fc;have Kt:¬nmL x∈(L.take k).map nmL:=(by rw[Qj.out,List.drop_of_length_le (by rw[List.length_take];omega)];simp);have Fr:Hid (Zp a b c m L=if Z8b x=false then 1 else shA ((L.take (k+1)).map nmL) (L.drop (k+1))):=(by show _=_;rw[Hv.out,if_neg Kt]);have y1:=Z0 Mq 1;have y2:=Z0 Mq 2;have y3:=Z0 Mq 3;have y4:=Z0 Mq 4;have y5:=Z0 Mq 5;have y6:=Z0 Mq 6;simp only[List.getElem?_toArray,List.getElem?_cons_zero,List.getElem?_cons_succ] at y1 y2 y3 y4 y5 y6;have He:∀w,Calls prog 95 #[.agg #[.int .i64 x.a0,.int .i64 x.a1],.int .i64 0,.int .i64 9999] w fun e w'=>e= .returned (.bool (ZF (spA x 0)))/\Ext w w':=fun w=>Z2e x.a0 x.a1 0 9999 w
        have Ea:∀w,Calls prog 95 #[.agg #[.int .i64 x.b0,.int .i64 x.b1],.int .i64 0,.int .i64 9999] w fun e w'=>e= .returned (.bool (ZF (spA x 1)))/\Ext w w':=fun w=>Z2e x.b0 x.b1 0 9999 w
        have Nc:∀w,Calls prog 95 #[.agg #[.int .i64 x.c0,.int .i64 x.c1],.int .i64 0,.int .i64 9999] w fun e w'=>e= .returned (.bool (ZF (spA x 2)))/\Ext w w':=fun w=>Z2e x.c0 x.c1 0 9999 w
        have Az:Z8b x=(ZF (spA x 0)&&ZF (spA x 1)&&ZF (spA x 2)):=rfl;have D4:=B6.trans Qi;have Am:=Mq;have Cz:=hrk;clear Hv Qj Kt hx Y7 Qi;cases h1:ZF (spA x 0) with
        |false=>
         simp only[h1] at He;have Aw:Hid (Zp a b c m L=1):=(by show _=_;rw[Fr.out,if_pos (by rw[Az,h1];simp)]);clear Fr Az
         go_wp2_with (first
          |(go_at_call 95;(with_reducible refine(He _).mono ?_);rintro e w2 ⟨rfl,A7⟩;replace D4:=D4.trans A7;replace Am:=A7.get Am;replace Cz:=A7.get Cz;clear A7 y1 y2 y3 y4 y5 y6;have y1:=Z0 Am 1;have y2:=Z0 Am 2;have y3:=Z0 Am 3;have y4:=Z0 Am 4;have y5:=Z0 Am 5;have y6:=Z0 Am 6;simp only[List.getElem?_toArray,List.getElem?_cons_zero,List.getElem?_cons_succ] at y1 y2 y3 y4 y5 y6)
          |(go_at_call 95;(with_reducible refine(Ea _).mono ?_);rintro e w2 ⟨rfl,A7⟩;replace D4:=D4.trans A7;replace Am:=A7.get Am;replace Cz:=A7.get Cz;clear A7 y1 y2 y3 y4 y5 y6;have y1:=Z0 Am 1;have y2:=Z0 Am 2;have y3:=Z0 Am 3;have y4:=Z0 Am 4;have y5:=Z0 Am 5;have y6:=Z0 Am 6;simp only[List.getElem?_toArray,List.getElem?_cons_zero,List.getElem?_cons_succ] at y1 y2 y3 y4 y5 y6)
          |(go_at_call 95;(with_reducible refine(Nc _).mono ?_);rintro e w2 ⟨rfl,A7⟩;replace D4:=D4.trans A7;replace Am:=A7.get Am;replace Cz:=A7.get Cz;clear A7 y1 y2 y3 y4 y5 y6;have y1:=Z0 Am 1;have y2:=Z0 Am 2;have y3:=Z0 Am 3;have y4:=Z0 Am 4;have y5:=Z0 Am 5;have y6:=Z0 Am 6;simp only[List.getElem?_toArray,List.getElem?_cons_zero,List.getElem?_cons_succ] at y1 y2 y3 y4 y5 y6))
         go_ret;exact⟨ZK (a:=1) Aw.out.symm,D4⟩
        |true=>
         simp only[h1] at He;cases h2:ZF (spA x 1) with
         |false=>
          simp only[h2] at Ea;have Aw:Hid (Zp a b c m L=1):=(by show _=_;rw[Fr.out,if_pos (by rw[Az,h1,h2];simp)]);clear Fr Az
          go_wp2_with (first
           |(go_at_call 95;(with_reducible refine(He _).mono ?_);rintro e w2 ⟨rfl,A7⟩;replace D4:=D4.trans A7;replace Am:=A7.get Am;replace Cz:=A7.get Cz;clear A7 y1 y2 y3 y4 y5 y6;have y1:=Z0 Am 1;have y2:=Z0 Am 2;have y3:=Z0 Am 3;have y4:=Z0 Am 4;have y5:=Z0 Am 5;have y6:=Z0 Am 6;simp only[List.getElem?_toArray,List.getElem?_cons_zero,List.getElem?_cons_succ] at y1 y2 y3 y4 y5 y6)
           |(go_at_call 95;(with_reducible refine(Ea _).mono ?_);rintro e w2 ⟨rfl,A7⟩;replace D4:=D4.trans A7;replace Am:=A7.get Am;replace Cz:=A7.get Cz;clear A7 y1 y2 y3 y4 y5 y6;have y1:=Z0 Am 1;have y2:=Z0 Am 2;have y3:=Z0 Am 3;have y4:=Z0 Am 4;have y5:=Z0 Am 5;have y6:=Z0 Am 6;simp only[List.getElem?_toArray,List.getElem?_cons_zero,List.getElem?_cons_succ] at y1 y2 y3 y4 y5 y6)
           |(go_at_call 95;(with_reducible refine(Nc _).mono ?_);rintro e w2 ⟨rfl,A7⟩;replace D4:=D4.trans A7;replace Am:=A7.get Am;replace Cz:=A7.get Cz;clear A7 y1 y2 y3 y4 y5 y6;have y1:=Z0 Am 1;have y2:=Z0 Am 2;have y3:=Z0 Am 3;have y4:=Z0 Am 4;have y5:=Z0 Am 5;have y6:=Z0 Am 6;simp only[List.getElem?_toArray,List.getElem?_cons_zero,List.getElem?_cons_succ] at y1 y2 y3 y4 y5 y6))
          go_ret;exact⟨ZK (a:=1) Aw.out.symm,D4⟩
         |true=>
          simp only[h2] at Ea;cases h3:ZF (spA x 2) with
          |false=>
           simp only[h3] at Nc;have Aw:Hid (Zp a b c m L=1):=(by show _=_;rw[Fr.out,if_pos (by rw[Az,h1,h2,h3];simp)]);clear Fr Az
           go_wp2_with (first
            |(go_at_call 95;(with_reducible refine(He _).mono ?_);rintro e w2 ⟨rfl,A7⟩;replace D4:=D4.trans A7;replace Am:=A7.get Am;replace Cz:=A7.get Cz;clear A7 y1 y2 y3 y4 y5 y6;have y1:=Z0 Am 1;have y2:=Z0 Am 2;have y3:=Z0 Am 3;have y4:=Z0 Am 4;have y5:=Z0 Am 5;have y6:=Z0 Am 6;simp only[List.getElem?_toArray,List.getElem?_cons_zero,List.getElem?_cons_succ] at y1 y2 y3 y4 y5 y6)
            |(go_at_call 95;(with_reducible refine(Ea _).mono ?_);rintro e w2 ⟨rfl,A7⟩;replace D4:=D4.trans A7;replace Am:=A7.get Am;replace Cz:=A7.get Cz;clear A7 y1 y2 y3 y4 y5 y6;have y1:=Z0 Am 1;have y2:=Z0 Am 2;have y3:=Z0 Am 3;have y4:=Z0 Am 4;have y5:=Z0 Am 5;have y6:=Z0 Am 6;simp only[List.getElem?_toArray,List.getElem?_cons_zero,List.getElem?_cons_succ] at y1 y2 y3 y4 y5 y6)
            |(go_at_call 95;(with_reducible refine(Nc _).mono ?_);rintro e w2 ⟨rfl,A7⟩;replace D4:=D4.trans A7;replace Am:=A7.get Am;replace Cz:=A7.get Cz;clear A7 y1 y2 y3 y4 y5 y6;have y1:=Z0 Am 1;have y2:=Z0 Am 2;have y3:=Z0 Am 3;have y4:=Z0 Am 4;have y5:=Z0 Am 5;have y6:=Z0 Am 6;simp only[List.getElem?_toArray,List.getElem?_cons_zero,List.getElem?_cons_succ] at y1 y2 y3 y4 y5 y6))
           go_ret;exact⟨ZK (a:=1) Aw.out.symm,D4⟩
          |true=>
           simp only[h3] at Nc;have Aw:Hid (Zp a b c m L=shA ((L.take (k+1)).map nmL) (L.drop (k+1))):=(by show _=_;rw[Fr.out,if_neg (by rw[Az,h1,h2,h3];simp)]);clear Fr Az
           go_wp2_with (first
            |(go_at_call 95;(with_reducible refine(He _).mono ?_);rintro e w2 ⟨rfl,A7⟩;replace D4:=D4.trans A7;replace Am:=A7.get Am;replace Cz:=A7.get Cz;clear A7 y1 y2 y3 y4 y5 y6;have y1:=Z0 Am 1;have y2:=Z0 Am 2;have y3:=Z0 Am 3;have y4:=Z0 Am 4;have y5:=Z0 Am 5;have y6:=Z0 Am 6;simp only[List.getElem?_toArray,List.getElem?_cons_zero,List.getElem?_cons_succ] at y1 y2 y3 y4 y5 y6)
            |(go_at_call 95;(with_reducible refine(Ea _).mono ?_);rintro e w2 ⟨rfl,A7⟩;replace D4:=D4.trans A7;replace Am:=A7.get Am;replace Cz:=A7.get Cz;clear A7 y1 y2 y3 y4 y5 y6;have y1:=Z0 Am 1;have y2:=Z0 Am 2;have y3:=Z0 Am 3;have y4:=Z0 Am 4;have y5:=Z0 Am 5;have y6:=Z0 Am 6;simp only[List.getElem?_toArray,List.getElem?_cons_zero,List.getElem?_cons_succ] at y1 y2 y3 y4 y5 y6)
            |(go_at_call 95;(with_reducible refine(Nc _).mono ?_);rintro e w2 ⟨rfl,A7⟩;replace D4:=D4.trans A7;replace Am:=A7.get Am;replace Cz:=A7.get Cz;clear A7 y1 y2 y3 y4 y5 y6;have y1:=Z0 Am 1;have y2:=Z0 Am 2;have y3:=Z0 Am 3;have y4:=Z0 Am 4;have y5:=Z0 Am 5;have y6:=Z0 Am 6;simp only[List.getElem?_toArray,List.getElem?_cons_zero,List.getElem?_cons_succ] at y1 y2 y3 y4 y5 y6))
           exact⟨⟨k+1,by omega,by push_cast;rfl,Cz,D4,Aw⟩,by simp[intOf];omega⟩
       ·have Y8:k<i:=(by omega);obtain⟨y,hy⟩:∃y,L[k]? =some y:=⟨_,List.getElem?_eq_getElem (by omega)⟩;obtain⟨b2,off2,H9,Ak,hky,hnmy⟩:=(Oi.ext Qi) k y hy;obtain⟨rfl,rfl⟩:b'=b2/\off=off2:=(by simpa using H9);have Ba:=hky.1;have B8:=Z0 Mq 0;simp only[List.getElem?_toArray,List.getElem?_cons_zero] at B8;have Cf:¬n<=k:=(by omega);have F3:nmL x∈((L.take i).drop k).map nmL↔nmL x=nmL y\/nmL x∈((L.take i).drop (k+1)).map nmL:=by
         have hty:(L.take i)[k]? =some y:=(by rw[List.getElem?_take,if_pos Y8];exact hy);rw[Z0b hty,List.map_cons,List.mem_cons]
        go_wp2_with fail
        have gz0:=Zet q4;have gz1:=Zet Ba;have gz2:=Zet B8;refine ZeG 9 (by kernel_rfl) ?_;refine ZeB [0,1,2,3,4,5,6,7,8] (by kernel_rfl) (by kernel_rfl) ?_;simp only[ZeD,List.getElem?_cons_succ,List.getElem?_cons_zero,List.cons_append,List.nil_append]
        repeat (go_big_quiet_step (fail))
        refine wpQuiet_nil ?_;refine Zf6 (by kernel_rfl) (fun W hW=> ?_);have B9:=hW;clear gz0 gz1 gz2;have Te:=Qi.trans B9;by_cases Co:nmL x=nmL y
        ·have he:(y.nm.toList==x.nm.toList)=true:=(by simp[ZdG Co]);have Aw:Hid (Zp a b c m L=5):=(by show _=_;rw[Hv.out,if_pos (Qj.out.2 (F3.2 (.inl Co)))]);rw[he];clear he Hv Qj F3;go_wp2;go_ret;exact⟨ZK (a:=5) Aw.out.symm,B6.trans Te⟩
        ·have he:(y.nm.toList==x.nm.toList)=false:=by
          rw[beq_eq_false_iff_ne];intro h;exact Co (by rw[nmL,nmL,(Z71 h).symm])
         have Pz:Hid (nmL x∈(L.take i).map nmL↔nmL x∈((L.take i).drop (k+1)).map nmL):=(by show _↔_;rw[Qj.out,F3];simp[Co]);rw[he];clear he Qj F3;go_wp2;go_roundw
         case rel=>exact⟨k+1,by omega,by push_cast;rfl,Te,Pz⟩
         case measure=>simp[intOf];omega
 ·have Ke:Z2J a b c m=1:=by
   unfold Z2J at hR⊢;split at hR
   ·exact absurd rfl hR
   ·rw[if_neg (by assumption)]
  have hF:Hid (Zp a b c m L=1):=by show _=_;rw[Zp,firstV,if_neg hR,Ke]
  have Ia:(okA a 9999&&okA b 9999&&okA c 9999&&decide (2<=m/\m<=4))=false:=by
   unfold Z2J at hR;split at hR
   ·exact absurd rfl hR
   ·rename_i h;simpa using h
  clear hR Ke;cases h1:okA a 9999 with
  |false=>
   simp only[h1] at E7;clear Ia h1;go_enter func26,ntmps26
   go_wp2_with (first
    |(go_at_call 93;(with_reducible refine(E7 _).mono ?_);rintro e w2 ⟨rfl,rfl⟩)
    |(go_at_call 93;(with_reducible refine(Cj _).mono ?_);rintro e w2 ⟨rfl,rfl⟩)
    |(go_at_call 93;(with_reducible refine(Ga _).mono ?_);rintro e w2 ⟨rfl,rfl⟩)
    |(go_at_call 93;(with_reducible refine(I9 _).mono ?_);rintro e w2 ⟨rfl,rfl⟩))
   go_ret;exact⟨ZK (a:=1) hF.out.symm,((Ext.rfl' w).alloc _).alloc _⟩
  |true=>
   simp only[h1] at E7;cases h2:okA b 9999 with
   |false=>
    simp only[h2] at Cj;clear Ia h1 h2;go_enter func26,ntmps26
    go_wp2_with (first
     |(go_at_call 93;(with_reducible refine(E7 _).mono ?_);rintro e w2 ⟨rfl,rfl⟩)
     |(go_at_call 93;(with_reducible refine(Cj _).mono ?_);rintro e w2 ⟨rfl,rfl⟩)
     |(go_at_call 93;(with_reducible refine(Ga _).mono ?_);rintro e w2 ⟨rfl,rfl⟩)
     |(go_at_call 93;(with_reducible refine(I9 _).mono ?_);rintro e w2 ⟨rfl,rfl⟩))
    go_ret;exact⟨ZK (a:=1) hF.out.symm,((Ext.rfl' w).alloc _).alloc _⟩
   |true=>
    simp only[h2] at Cj;cases h3:okA c 9999 with
    |false=>
     simp only[h3] at Ga;clear Ia h1 h2 h3;go_enter func26,ntmps26
     go_wp2_with (first
      |(go_at_call 93;(with_reducible refine(E7 _).mono ?_);rintro e w2 ⟨rfl,rfl⟩)
      |(go_at_call 93;(with_reducible refine(Cj _).mono ?_);rintro e w2 ⟨rfl,rfl⟩)
      |(go_at_call 93;(with_reducible refine(Ga _).mono ?_);rintro e w2 ⟨rfl,rfl⟩)
      |(go_at_call 93;(with_reducible refine(I9 _).mono ?_);rintro e w2 ⟨rfl,rfl⟩))
     go_ret;exact⟨ZK (a:=1) hF.out.symm,((Ext.rfl' w).alloc _).alloc _⟩
    |true=>
     simp only[h3] at Ga;have h4:decide (2<=m/\m<=4)=false:=(by rw[h1,h2,h3] at Ia;simpa using Ia);simp only[h4] at I9;clear Ia h1 h2 h3 h4;go_enter func26,ntmps26
     go_wp2_with (first
      |(go_at_call 93;(with_reducible refine(E7 _).mono ?_);rintro e w2 ⟨rfl,rfl⟩)
      |(go_at_call 93;(with_reducible refine(Cj _).mono ?_);rintro e w2 ⟨rfl,rfl⟩)
      |(go_at_call 93;(with_reducible refine(Ga _).mono ?_);rintro e w2 ⟨rfl,rfl⟩)
      |(go_at_call 93;(with_reducible refine(I9 _).mono ?_);rintro e w2 ⟨rfl,rfl⟩))
     go_ret;exact⟨ZK (a:=1) hF.out.symm,((Ext.rfl' w).alloc _).alloc _⟩
end Go.Proofs.Tryq
namespace Go.Proofs.Tryq
open Go Go.Nk Go.RowKit
set_option linter.all false
theorem Zib{P:Program}{ops:Array Oper}{R:Exit->Act->World->Prop}{t:Nat}{l:List Nat}(k:Nat){o:Oper}{v:Value}{a:Act}{w:World}{f:FuncId}{args:Array Value}(hs:okT ops t=true)(hi:ops[k]? =some o)(hf:Zil ops t l k=true)(hw:Region.wanted o (yielded ops a.tmps)=true)
 (hr:∀W,(execOp a.eval o).run P W= .ok (.enter f args) W)(hc:∀W,Ext w W->Calls P f args W fun e W'=>e= .returned v/\Ext W W')(h:LX P ops R t (k::l) (a.put o.dst v) w):LX P ops R t l a w:=
 Zim hs hi hf (.inl ⟨hw,fun W hW=>by unfold YV;rw[hr W];exact⟨Ext.rfl' W,hc W hW⟩⟩) h
theorem Zi8{o:Oper}{a:Act}{W:World}{K:Act->World->Prop}{Q:Exit->Act->World->Prop}(h:∃W',(execOp a.eval o).run prog W= .ok .skip W'/\K (a.put o.dst undef) W'):o.wp prog a W K Q:=by
 obtain⟨W',hr,h⟩:=h;unfold Oper.wp;rw[hr];simp only[Oper.upon];exact h
theorem Zl5{P:Program}{ops:Array Oper}{R:Exit->Act->World->Prop}{t:Nat}{l:List Nat}(k:Nat){o:Oper}{v:Value}{a:Act}{w:World}(hs:okT ops t=true)(hi:ops[k]? =some o)(hf:Zil ops t l k=true)(hw:Region.wanted o (yielded ops a.tmps)=true)
 (hr:∀W,(execOp a.eval o).run P W= .ok (.value v) W)(h:LX P ops R t (k::l) (a.put o.dst v) w):LX P ops R t l a w:=
 Zim hs hi hf (.inl ⟨hw,fun W hW=>by unfold YV;rw[hr W];exact⟨rfl,Ext.rfl' W⟩⟩) h
def chooseR:List Int->List (List Int)
 |[]=>[[]]
 |x::t=>[]::((chooseR t).map (x::·)++(chooseR t).tail)
theorem chooseR_head:∀l,chooseR l=[]::(chooseR l).tail
 |[]=>rfl
 |_::_=>rfl
theorem chooseR_ne:∀(l:List Int)(c:List Int),c∈(chooseR l).tail->c≠[]
 |[],c,h=>by cases h
 |x::t,c,h=>by
  rcases List.mem_append.1 (show c∈(chooseR t).map (x::·)++(chooseR t).tail from h) with h|h
  ·obtain⟨y,_,rfl⟩:=List.mem_map.1 h;simp
  ·exact chooseR_ne t c h
theorem Zey{A:List Ap}:Zr A=1↔A=[]:=by
 unfold Zr;cases A with
 |nil=>simp
 |cons x t=>
  constructor
  ·intro h;split at h
   ·cases h
   ·simp at h
  ·intro h;cases h
def ZeS(n:Nat)(out:Nat->Bool)(i:Nat):List Int:=((List.range' i (n - i)).filter fun k=> !out k).map fun(k:Nat)=>(k:Int)
theorem chooseR_mem:∀(s c:List Int),c∈chooseR s->List.Sublist c s
 |[],c,h=>by cases List.mem_singleton.1 h;exact List.Sublist.refl _
 |x::t,c,h=>by
  rcases List.mem_cons.1 h with rfl|h
  ·exact List.nil_sublist _
  ·rcases List.mem_append.1 h with h|h
   ·obtain⟨y,hy,rfl⟩:=List.mem_map.1 h;exact(chooseR_mem t y hy).cons_cons x
   ·exact(chooseR_mem t c (List.mem_of_mem_tail h)).cons x
theorem mem_chooseR:∀(s c:List Int),List.Sublist c s->c∈chooseR s
 |[],c,h=>by rw[List.sublist_nil.1 h];simp[chooseR]
 |x::t,c,h=>by
  cases c with
  |nil=>exact List.mem_cons_self
  |cons y c=>
   rw[chooseR];refine List.mem_cons_of_mem _ (List.mem_append.2 ?_);cases h with
   |cons _ h=>
    right
    have:=mem_chooseR t _ h;rw[chooseR_head] at this;rcases List.mem_cons.1 this with h2|h2
    ·cases h2
    ·exact h2
   |cons_cons _ h=>exact .inl (List.mem_map.2 ⟨c,mem_chooseR t c h,rfl⟩)
end Go.Proofs.Tryq
namespace Go.Proofs.Tryq
set_option maxRecDepth 100000
set_option maxHeartbeats 4000000
open Go Go.Nk Go.RowKit
def Zm(f:Nat->Bool)(bt:Int->Int->Bool):Nat->Nat×Bool
 |0=>(0,false)
 |k+1=>if f k&&(!(Zm f bt k).2||bt (bl k).length (bl (Zm f bt k).1).length||((bl k).length==(bl (Zm f bt k).1).length&&Z1g k (Zm f bt k).1)) then(k,true) else Zm f bt k
theorem Z56(f:Nat->Bool)(bt:Int->Int->Bool):∀k,k<=256->(Zm f bt k).1<256
 |0,_=>by simp[Zm]
 |k+1,h=>by
  rw[Zm];split
  ·simp;omega
  ·exact Z56 f bt k (by omega)
theorem Z7K(r0 r1 r2 r3:Int)(base:Option Addr)(cap B n:Nat)(p:Nat->Nat)(C:Nat->Nat->Int×Int)(hn:n<=8)(ft:Bool)(g:FuncId)(bt:Int->Int->Bool)(w:World)(hm:Most w)(hC:Cv w B n p C)(hd:Deb w)
 (Ee:∀args w,(callFunc g args).run prog w= .ok (.enter g args) w)(hgc:∀a b w,Calls prog g #[.int .i64 a,.int .i64 b] w fun e w'=>e= .returned (.bool (bt a b))/\w'=w):
 Calls prog 125 #[.agg #[.int .i64 r0,.int .i64 r1,.int .i64 r2,.int .i64 r3,.slice base n cap,.slice (some ⟨B,0,none⟩) n n],.bool ft,.func (.func g) #[] #[]] w fun e w'=>
  ∃v,e= .returned (.tuple #[v,.bool (Zm (fun k=>Zz C k n==ft) bt (2 ^ n)).2])/\OwnI w.heap.size w' v ((bl (Zm (fun k=>Zz C k n==ft) bt (2 ^ n)).1).map fun(i:Nat)=>(i:Int))/\Ext w w':=by
 have Nm:=Z2Z hn;have Be:=fun v w'=>Z08 r0 r1 r2 r3 base n cap v hn w'
 go_enter func125,ntmps125;have hc:(w.alloc (.cells #[.int .i64 r0,.int .i64 r1,.int .i64 r2,.int .i64 r3,.slice base n cap,.slice (some ⟨B,0,none⟩) n n] 146)).heap[w.heap.size]? =some (.cells #[.int .i64 r0,.int .i64 r1,.int .i64 r2,.int .i64 r3,.slice base n cap,.slice (some ⟨B,0,none⟩) n n] 146):=by rw[Z3,if_pos rfl]
 have Ao:=(Ext.rfl' w).alloc (.cells #[.int .i64 r0,.int .i64 r1,.int .i64 r2,.int .i64 r3,.slice base n cap,.slice (some ⟨B,0,none⟩) n n] 146)
 go_wp2_with (first
  |(go_at_call 106;refine(Be _ _).mono ?_;rintro e w2 ⟨rfl,A7⟩;have D6:=A7.get hc))
 have As:=Ao.trans A7;have Mr:((2:Int) ^ n)=((2 ^ n:Nat):Int):=by push_cast;rfl
 have Dt:2 ^ n<=256:=by omega
 rw[Mr];clear Mr Nm A7 hc Ao;obtain⟨m,Hm⟩:∃m,m=2 ^ n:=⟨_,rfl⟩;rw[<-Hm] at Dt⊢;replace Hm:=Lib.hid Hm;go_loopw [8,9,16] (fun vb vf vk wr=>∃k:Nat,k<=m/\vk= .int .i64 k/\vb= .int .i64 ((Zm (fun k=>Zz C k n==ft) bt k).1:Nat)/\vf= .bool (Zm (fun k=>Zz C k n==ft) bt k).2/\Ext w wr/\wr.heap[w.heap.size]? =some (.cells #[.int .i64 r0,.int .i64 r1,.int .i64 r2,.int .i64 r3,.slice base n cap,.slice (some ⟨B,0,none⟩) n n] 146)) (fun _ _ vk _=>m - (intOf vk).toNat)
 case atStart=>exact⟨0,Nat.zero_le _,rfl,rfl,rfl,As,D6⟩
 case round=>
  obtain⟨k,hk,rfl,rfl,rfl,hE,D2⟩:=hrel;clear As D6;have c0:=Z0 D2 0;have c1:=Z0 D2 1;have c2:=Z0 D2 2;have c3:=Z0 D2 3;have c4:=Z0 D2 4;have c5:=Z0 D2 5;simp only[List.getElem?_toArray,List.getElem?_cons_zero,List.getElem?_cons_succ] at c0 c1 c2 c3 c4 c5;have Bg:=Z56 (fun k=>Zz C k n==ft) bt k (by omega);by_cases Kh:k=m
  ·subst Kh;have Ya:=fun w hd=>ZbS _ Bg w hd
   go_wp2_with (first|(go_at_call 158;refine(Ya _ (hd.ext hE)).mono ?_;rintro e w9 ⟨v,rfl,hv,Ca⟩))
   go_ret2;rw[<-Hm.out];exact⟨v,rfl,hv.le hE.size,hE.trans Ca⟩
  ·have B1:k<256:=by omega
   have Eu:=Z7j r0 r1 r2 r3 (.slice base n cap) B n (k:Int) p C hn (by omega) wr (hm.ext hE) (hC.ext hE);have H:Hid (Zm (fun k=>Zz C k n==ft) bt (k+1)=if(Zz C k n==ft)&&(!(Zm (fun k=>Zz C k n==ft) bt k).2||bt (bl k).length (bl (Zm (fun k=>Zz C k n==ft) bt k).1).length||((bl k).length==(bl (Zm (fun k=>Zz C k n==ft) bt k).1).length&&Z1g k (Zm (fun k=>Zz C k n==ft) bt k).1)) then(k,true) else Zm (fun k=>Zz C k n==ft) bt k):=rfl;generalize Zm (fun k=>Zz C k n==ft) bt k=P at H Bg⊢;obtain⟨b,f⟩:=P;have Xt:(0:Int)<=(k:Int):=by omega
   have Fa:(k:Int)<256:=by omega
   have Gw:(0:Int)<=(b:Int):=by omega
   have B0:(b:Int)<256:=by have:b<256:=Bg;omega
   have Md:=fun w=>Z7k k B1 w
   have I1:=fun w=>Z7k b Bg w
   have Bv:=fun w=>hgc (bl k).length (bl b).length w
   have Kv:=fun w=>Z89 (k:Int) (b:Int) ⟨Xt,Fa⟩ ⟨Gw,B0⟩ w
   simp only at H I1 Bv Kv;have hkm2:((k:Int)<(m:Int)):=by omega
   generalize (bl k).length=x at H Md Bv;generalize (bl b).length=y at H I1 Bv;generalize Z1g (k:Int) (b:Int)=l at H Kv;generalize Zz C (k:Int) n=q at H Eu;generalize bt (x:Int) (y:Int)=t at H Bv;by_cases hq:q=ft
   ·subst hq;cases f
    ·have e':Zm (fun k=>Zz C k n==q) bt (k+1)=(k,true):=(by rw[H];simp);replace e':=Lib.hid e';clear H
     go_wp2_with (first
     |(go_at_call 124;refine Eu.mono ?_;rintro e w2 ⟨rfl,A7⟩;have hW:=hE.trans A7;have Jf:=A7.get D2;clear c0 c1 c2 c3 c4 c5)
     |(go_at_call 156;refine(Md _).mono ?_;rintro e w2 ⟨rfl,rfl⟩)
     |(go_at_call 156;refine(I1 _).mono ?_;rintro e w2 ⟨rfl,rfl⟩)
     |(go_at_call 157;refine(Kv _).mono ?_;rintro e w2 ⟨rfl,rfl⟩)
     |(refine(Bv _).mono ?_;rintro e w2 ⟨rfl,rfl⟩))
     go_roundw
     case rel=>exact⟨k+1,by omega,by push_cast;rfl,by rw[e'.out],by rw[e'.out],hW,Jf⟩
     case measure=>simp[intOf];omega
    ·cases t
     ·by_cases Co:x=y
      ·subst Co;have H0:(((x:Int)==(x:Int)))=true:=(by simp);cases l
       ·have e':Zm (fun k=>Zz C k n==q) bt (k+1)=(b,true):=(by rw[H];simp);replace e':=Lib.hid e';clear H
        go_wp2_with (first
        |(go_at_call 124;refine Eu.mono ?_;rintro e w2 ⟨rfl,A7⟩;have hW:=hE.trans A7;have Jf:=A7.get D2;clear c0 c1 c2 c3 c4 c5)
        |(go_at_call 156;refine(Md _).mono ?_;rintro e w2 ⟨rfl,rfl⟩)
        |(go_at_call 156;refine(I1 _).mono ?_;rintro e w2 ⟨rfl,rfl⟩)
        |(go_at_call 157;refine(Kv _).mono ?_;rintro e w2 ⟨rfl,rfl⟩)
        |(refine(Bv _).mono ?_;rintro e w2 ⟨rfl,rfl⟩))
        go_roundw
        case rel=>exact⟨k+1,by omega,by push_cast;rfl,by rw[e'.out],by rw[e'.out],hW,Jf⟩
        case measure=>simp[intOf];omega
       ·have e':Zm (fun k=>Zz C k n==q) bt (k+1)=(k,true):=(by rw[H];simp);replace e':=Lib.hid e';clear H
        go_wp2_with (first
        |(go_at_call 124;refine Eu.mono ?_;rintro e w2 ⟨rfl,A7⟩;have hW:=hE.trans A7;have Jf:=A7.get D2;clear c0 c1 c2 c3 c4 c5)
        |(go_at_call 156;refine(Md _).mono ?_;rintro e w2 ⟨rfl,rfl⟩)
        |(go_at_call 156;refine(I1 _).mono ?_;rintro e w2 ⟨rfl,rfl⟩)
        |(go_at_call 157;refine(Kv _).mono ?_;rintro e w2 ⟨rfl,rfl⟩)
        |(refine(Bv _).mono ?_;rintro e w2 ⟨rfl,rfl⟩))
        go_roundw
        case rel=>exact⟨k+1,by omega,by push_cast;rfl,by rw[e'.out],by rw[e'.out],hW,Jf⟩
        case measure=>simp[intOf];omega
      ·have H0:(((x:Int)==(y:Int)))=false:=(by simp;omega);have e':Zm (fun k=>Zz C k n==q) bt (k+1)=(b,true):=(by rw[H];simp[Co]);replace e':=Lib.hid e';clear H
       go_wp2_with (first
       |(go_at_call 124;refine Eu.mono ?_;rintro e w2 ⟨rfl,A7⟩;have hW:=hE.trans A7;have Jf:=A7.get D2;clear c0 c1 c2 c3 c4 c5)
       |(go_at_call 156;refine(Md _).mono ?_;rintro e w2 ⟨rfl,rfl⟩)
       |(go_at_call 156;refine(I1 _).mono ?_;rintro e w2 ⟨rfl,rfl⟩)
       |(go_at_call 157;refine(Kv _).mono ?_;rintro e w2 ⟨rfl,rfl⟩)
       |(refine(Bv _).mono ?_;rintro e w2 ⟨rfl,rfl⟩))
       go_roundw
       case rel=>exact⟨k+1,by omega,by push_cast;rfl,by rw[e'.out],by rw[e'.out],hW,Jf⟩
       case measure=>simp[intOf];omega
     ·have e':Zm (fun k=>Zz C k n==q) bt (k+1)=(k,true):=(by rw[H];simp);replace e':=Lib.hid e';clear H
      go_wp2_with (first
      |(go_at_call 124;refine Eu.mono ?_;rintro e w2 ⟨rfl,A7⟩;have hW:=hE.trans A7;have Jf:=A7.get D2;clear c0 c1 c2 c3 c4 c5)
      |(go_at_call 156;refine(Md _).mono ?_;rintro e w2 ⟨rfl,rfl⟩)
      |(go_at_call 156;refine(I1 _).mono ?_;rintro e w2 ⟨rfl,rfl⟩)
      |(go_at_call 157;refine(Kv _).mono ?_;rintro e w2 ⟨rfl,rfl⟩)
      |(refine(Bv _).mono ?_;rintro e w2 ⟨rfl,rfl⟩))
      go_roundw
      case rel=>exact⟨k+1,by omega,by push_cast;rfl,by rw[e'.out],by rw[e'.out],hW,Jf⟩
      case measure=>simp[intOf];omega
   ·cases q<;>cases ft<;>first
     |exact absurd rfl hq
     |(
       have e':=H.trans (if_neg (by simp));replace e':=Lib.hid e';clear H
       go_wp2_with (first
       |(go_at_call 124;refine Eu.mono ?_;rintro e w2 ⟨rfl,A7⟩;have hW:=hE.trans A7;have Jf:=A7.get D2;clear c0 c1 c2 c3 c4 c5)
       |(go_at_call 156;refine(Md _).mono ?_;rintro e w2 ⟨rfl,rfl⟩)
       |(go_at_call 156;refine(I1 _).mono ?_;rintro e w2 ⟨rfl,rfl⟩)
       |(go_at_call 157;refine(Kv _).mono ?_;rintro e w2 ⟨rfl,rfl⟩)
       |(refine(Bv _).mono ?_;rintro e w2 ⟨rfl,rfl⟩))
       go_roundw
       case rel=>exact⟨k+1,by omega,by push_cast;rfl,by rw[e'.out],by rw[e'.out],hW,Jf⟩
       case measure=>simp[intOf];omega)
end Go.Proofs.Tryq
namespace Go.Proofs.Tryq
set_option maxRecDepth 100000
set_option maxHeartbeats 1000000
open Go Go.Nk Go.RowKit
theorem ZbZ(a b:Int)(w:World):Calls prog 126 #[.int .i64 a,.int .i64 b] w fun e w'=>e= .returned (.bool (decide (a<b)))/\w'=w:=by
 go_enter func126,ntmps126;go_wp2;go_ret;exact⟨rfl,rfl⟩
theorem Zc0(a b:Int)(w:World):Calls prog 128 #[.int .i64 a,.int .i64 b] w fun e w'=>e= .returned (.bool (decide (b<a)))/\w'=w:=by
 go_enter func128,ntmps128;go_wp2;go_ret;exact⟨rfl,rfl⟩
def Z7L(r0 r1 r2 r3:Int)(S:List Rs):List Int:=(bl (Zm (fun k=>Zz (cvS r0 r1 r2 r3 (S.map Ze)) k S.length==false) (fun a b=>decide (a<b)) (2 ^ S.length)).1).map fun(i:Nat)=>(i:Int)
def Z7M(r0 r1 r2 r3:Int)(S:List Rs):List Int:=(bl (Zm (fun k=>Zz (cvS r0 r1 r2 r3 (S.map Ze)) k S.length==true) (fun a b=>decide (b<a)) (2 ^ S.length)).1).map fun(i:Nat)=>(i:Int)
theorem Zas(r0 r1 r2 r3:Int)(base:Option Addr)(n cap:Nat)(S:List Rs)(w:World)(A2:S.length=n)(hS:RawS w base S)(hm:Most w)(hd:Deb w):
 Calls prog 66 #[.agg #[.int .i64 r0,.int .i64 r1,.int .i64 r2,.int .i64 r3,.slice base n cap]] w fun e w'=>∃v,e= .returned (.tuple #[v,.int .i64 (ZC r0 r1 r2 r3 S)])/\OwnI w.heap.size w' v (if ZC r0 r1 r2 r3 S=0 then Z7L r0 r1 r2 r3 S else[])/\Ext w w':=by
 have C4:=Z0U r0 r1 r2 r3 base n cap S;simp only[Zh] at C4;have hb:(w.alloc (.cells #[.int .i64 r0,.int .i64 r1,.int .i64 r2,.int .i64 r3,.slice base n cap] 70)).heap[w.heap.size]? =some (.cells #[.int .i64 r0,.int .i64 r1,.int .i64 r2,.int .i64 r3,.slice base n cap] 70):=by rw[Z3,if_pos rfl]
 have Ao:Ext w _:=(Ext.rfl' w).alloc (.cells #[.int .i64 r0,.int .i64 r1,.int .i64 r2,.int .i64 r3,.slice base n cap] 70);have F7:=C4 _ A2 (hS.ext Ao);clear C4;by_cases D5:ZC r0 r1 r2 r3 S=0
 ·obtain⟨_,h8,Az⟩:=Z0i D5;rw[if_pos D5];rw[D5] at F7⊢;clear D5;have Cy:(S.map Ze).length=n:=by rw[List.length_map,A2]
  have E1:n<=8:=by omega
  have Ju:=fun w hS=>Z2c r0 r1 r2 r3 base cap w (S.map Ze) n Cy E1 hS
  have Le:=fun B p w hm hC hd=>Z7K r0 r1 r2 r3 base cap B n p (cvS r0 r1 r2 r3 (S.map Ze)) E1 false 126 (fun a b=>decide (a<b)) w hm hC hd (fun args w=>by simp[go_sem]) ZbZ
  simp only[Zh] at Ju;go_enter func66,ntmps66
  go_wp2_with (first
   |(go_at_call 62;refine F7.mono ?_;rintro e w2 ⟨rfl,A7⟩;have As:=Ao.trans A7;have Ak:=A7.get hb;have q0:=Z0 Ak 0;have q1:=Z0 Ak 1;have q2:=Z0 Ak 2;have q3:=Z0 Ak 3;have q4:=Z0 Ak 4;simp only[List.getElem?_toArray,List.getElem?_cons_zero,List.getElem?_cons_succ] at q0 q1 q2 q3 q4)
   |(go_at_call 123;refine(Ju _ (Z4J (hS.ext As) Az)).mono ?_;rintro e w3 ⟨B,p,rfl,An,hC,_,_⟩;have B6:=As.trans An)
   |(go_at_call 125;refine(Le B p _ (hm.ext B6) hC (hd.ext B6)).mono ?_;rintro e w4 ⟨v,rfl,hv,Bz⟩))
  go_ret2;exact⟨v,rfl,by rw[Z7L,A2];exact hv.le B6.size,B6.trans Bz⟩
 ·rw[if_neg D5];have hx:(ZC r0 r1 r2 r3 S !=0)=true:=by simpa using D5
  clear D5;generalize ZC r0 r1 r2 r3 S=x at hx F7⊢;go_enter func66,ntmps66
  go_wp2_with (first
   |(go_at_call 62;refine F7.mono ?_;rintro e w2 ⟨rfl,A7⟩;have As:=Ao.trans A7))
  go_ret2;exact⟨_,rfl,World.ownsRow_nil _ _ _ _,As⟩
theorem Zat(r0 r1 r2 r3:Int)(base:Option Addr)(n cap:Nat)(S:List Rs)(w:World)(A2:S.length=n)(hS:RawS w base S)(hm:Most w)(hd:Deb w):
 Calls prog 68 #[.agg #[.int .i64 r0,.int .i64 r1,.int .i64 r2,.int .i64 r3,.slice base n cap]] w fun e w'=>∃v,e= .returned (.tuple #[v,.int .i64 (ZC r0 r1 r2 r3 S)])/\OwnI w.heap.size w' v (if ZC r0 r1 r2 r3 S=0 then Z7M r0 r1 r2 r3 S else[])/\Ext w w':=by
 have C4:=Z0U r0 r1 r2 r3 base n cap S;simp only[Zh] at C4;have hb:(w.alloc (.cells #[.int .i64 r0,.int .i64 r1,.int .i64 r2,.int .i64 r3,.slice base n cap] 70)).heap[w.heap.size]? =some (.cells #[.int .i64 r0,.int .i64 r1,.int .i64 r2,.int .i64 r3,.slice base n cap] 70):=by rw[Z3,if_pos rfl]
 have Ao:Ext w _:=(Ext.rfl' w).alloc (.cells #[.int .i64 r0,.int .i64 r1,.int .i64 r2,.int .i64 r3,.slice base n cap] 70);have F7:=C4 _ A2 (hS.ext Ao);clear C4;by_cases D5:ZC r0 r1 r2 r3 S=0
 ·obtain⟨_,h8,Az⟩:=Z0i D5;rw[if_pos D5];rw[D5] at F7⊢;clear D5;have Cy:(S.map Ze).length=n:=by rw[List.length_map,A2]
  have E1:n<=8:=by omega
  have Ju:=fun w hS=>Z2c r0 r1 r2 r3 base cap w (S.map Ze) n Cy E1 hS
  have Le:=fun B p w hm hC hd=>Z7K r0 r1 r2 r3 base cap B n p (cvS r0 r1 r2 r3 (S.map Ze)) E1 true 128 (fun a b=>decide (b<a)) w hm hC hd (fun args w=>by simp[go_sem]) Zc0
  simp only[Zh] at Ju;go_enter func68,ntmps68
  go_wp2_with (first
   |(go_at_call 62;refine F7.mono ?_;rintro e w2 ⟨rfl,A7⟩;have As:=Ao.trans A7;have Ak:=A7.get hb;have q0:=Z0 Ak 0;have q1:=Z0 Ak 1;have q2:=Z0 Ak 2;have q3:=Z0 Ak 3;have q4:=Z0 Ak 4;simp only[List.getElem?_toArray,List.getElem?_cons_zero,List.getElem?_cons_succ] at q0 q1 q2 q3 q4)
   |(go_at_call 123;refine(Ju _ (Z4J (hS.ext As) Az)).mono ?_;rintro e w3 ⟨B,p,rfl,An,hC,_,_⟩;have B6:=As.trans An)
   |(go_at_call 125;refine(Le B p _ (hm.ext B6) hC (hd.ext B6)).mono ?_;rintro e w4 ⟨v,rfl,hv,Bz⟩))
  go_ret2;exact⟨v,rfl,by rw[Z7M,A2];exact hv.le B6.size,B6.trans Bz⟩
 ·rw[if_neg D5];have hx:(ZC r0 r1 r2 r3 S !=0)=true:=by simpa using D5
  clear D5;generalize ZC r0 r1 r2 r3 S=x at hx F7⊢;go_enter func68,ntmps68
  go_wp2_with (first
   |(go_at_call 62;refine F7.mono ?_;rintro e w2 ⟨rfl,A7⟩;have As:=Ao.trans A7))
  go_ret2;exact⟨_,rfl,World.ownsRow_nil _ _ _ _,As⟩
def Z1e(r0 r1 r2 r3:Int)(S:List Rs)(k:Int):Int:=firstV [ZC r0 r1 r2 r3 S,Z6r S.length k]
def Z68(r2 r3:Int)(s:Rs):Int×Int:=(lo s.m s.wi s.li r2 r3,hi s.M s.wi s.li r2 r3)
def Zau(r0 r1 r2 r3:Int)(S:List Rs)(k:Int):Int×Int:=if Z1e r0 r1 r2 r3 S k=0 then(match S[k.toNat]? with|some s=>Z68 r2 r3 s|none=>(0,0)) else(0,0)
theorem Z69(r0 r1 r2 r3:Int)(base:Option Addr)(n cap:Nat)(S:List Rs)(k:Int)(w:World)(A2:S.length=n)(Td:n<=20)(hS:RawS w base S):
 Calls prog 49 #[.agg #[.int .i64 r0,.int .i64 r1,.int .i64 r2,.int .i64 r3,.slice base n cap],.int .i64 k] w fun e w'=>e= .returned (.tuple #[.agg #[.int .i64 (Zau r0 r1 r2 r3 S k).1,.int .i64 (Zau r0 r1 r2 r3 S k).2],.int .i64 (Z1e r0 r1 r2 r3 S k)])/\Ext w w':=by
 have An:Ext w ((((w.alloc (.cells #[.int .i64 r0,.int .i64 r1,.int .i64 r2,.int .i64 r3,.slice base n cap] 70)).alloc (.cells #[.int .i64 k] 3)).alloc (.cells #[.int .i64 0,.int .i64 0] 48)).alloc (.cells #[.func (.func 107) #[] #[.pointer (some ⟨w.heap.size,0,none⟩)],.func (.func 108) #[] #[.pointer (some ⟨w.heap.size+1,0,none⟩),.pointer (some ⟨w.heap.size,0,none⟩)]] 127)):=((((Ext.rfl' w).alloc _).alloc _).alloc _).alloc _;have hb:((((w.alloc (.cells #[.int .i64 r0,.int .i64 r1,.int .i64 r2,.int .i64 r3,.slice base n cap] 70)).alloc (.cells #[.int .i64 k] 3)).alloc (.cells #[.int .i64 0,.int .i64 0] 48)).alloc (.cells #[.func (.func 107) #[] #[.pointer (some ⟨w.heap.size,0,none⟩)],.func (.func 108) #[] #[.pointer (some ⟨w.heap.size+1,0,none⟩),.pointer (some ⟨w.heap.size,0,none⟩)]] 127)).heap[w.heap.size]? =some (.cells #[.int .i64 r0,.int .i64 r1,.int .i64 r2,.int .i64 r3,.slice base n cap] 70):=by
  simp only[Z3,Z2];rw[if_neg (by omega),if_neg (by omega),if_neg (by omega),if_pos trivial]
 have hk:((((w.alloc (.cells #[.int .i64 r0,.int .i64 r1,.int .i64 r2,.int .i64 r3,.slice base n cap] 70)).alloc (.cells #[.int .i64 k] 3)).alloc (.cells #[.int .i64 0,.int .i64 0] 48)).alloc (.cells #[.func (.func 107) #[] #[.pointer (some ⟨w.heap.size,0,none⟩)],.func (.func 108) #[] #[.pointer (some ⟨w.heap.size+1,0,none⟩),.pointer (some ⟨w.heap.size,0,none⟩)]] 127)).heap[w.heap.size+1]? =some (.cells #[.int .i64 k] 3):=by
  simp only[Z3,Z2];rw[if_neg (by omega),if_neg (by omega),if_pos trivial]
 have hz:((((w.alloc (.cells #[.int .i64 r0,.int .i64 r1,.int .i64 r2,.int .i64 r3,.slice base n cap] 70)).alloc (.cells #[.int .i64 k] 3)).alloc (.cells #[.int .i64 0,.int .i64 0] 48)).alloc (.cells #[.func (.func 107) #[] #[.pointer (some ⟨w.heap.size,0,none⟩)],.func (.func 108) #[] #[.pointer (some ⟨w.heap.size+1,0,none⟩),.pointer (some ⟨w.heap.size,0,none⟩)]] 127)).heap[w.heap.size+1+1]? =some (.cells #[.int .i64 0,.int .i64 0] 48):=by
  simp only[Z3,Z2];rw[if_neg (by omega),if_pos trivial]
 have hf:((((w.alloc (.cells #[.int .i64 r0,.int .i64 r1,.int .i64 r2,.int .i64 r3,.slice base n cap] 70)).alloc (.cells #[.int .i64 k] 3)).alloc (.cells #[.int .i64 0,.int .i64 0] 48)).alloc (.cells #[.func (.func 107) #[] #[.pointer (some ⟨w.heap.size,0,none⟩)],.func (.func 108) #[] #[.pointer (some ⟨w.heap.size+1,0,none⟩),.pointer (some ⟨w.heap.size,0,none⟩)]] 127)).heap[w.heap.size+1+1+1]? =some (.cells #[.func (.func 107) #[] #[.pointer (some ⟨w.heap.size,0,none⟩)],.func (.func 108) #[] #[.pointer (some ⟨w.heap.size+1,0,none⟩),.pointer (some ⟨w.heap.size,0,none⟩)]] 127):=by
  simp only[Z3,Z2];rw[if_pos trivial]
 have Gn:=fun w4 (An:Ext w w4)(hb:w4.heap[w.heap.size]? =some (.cells #[.int .i64 r0,.int .i64 r1,.int .i64 r2,.int .i64 r3,.slice base n cap] 70))(hk:w4.heap[w.heap.size+1]? =some (.cells #[.int .i64 k] 3))(hf:w4.heap[w.heap.size+1+1+1]? =some (.cells #[.func (.func 107) #[] #[.pointer (some ⟨w.heap.size,0,none⟩)],.func (.func 108) #[] #[.pointer (some ⟨w.heap.size+1,0,none⟩),.pointer (some ⟨w.heap.size,0,none⟩)]] 127))=>
  Z1S (w.heap.size+1+1+1) 2 2 (fun i=>if i=0 then 107 else 108) (fun i=> #[]) (fun i=>if i=0 then #[.pointer (some ⟨w.heap.size,0,none⟩)] else #[.pointer (some ⟨w.heap.size+1,0,none⟩),.pointer (some ⟨w.heap.size,0,none⟩)]) [ZC r0 r1 r2 r3 S,Z6r n k] rfl (by omega) w4 (by
   intro i hi;rw[Z0 hf];obtain rfl|rfl:i=0\/i=1:=by omega
   ·rfl
   ·rfl) (by
   intro i hi args w';obtain rfl|rfl:i=0\/i=1:=by omega
   ·simp[go_sem]
   ·simp[go_sem]) (by
   intro i x hx w' hE'
   match i,hx with
   |0,hx=>
    obtain rfl:=Option.some.inj hx;exact ZcT r0 r1 r2 r3 base n cap S w' A2 (hS.ext (An.trans hE')) _ (hE'.get hb)
   |1,hx=>
    obtain rfl:=Option.some.inj hx;exact ZcV r0 r1 r2 r3 base n cap Td w' _ (hE'.get hb) _ k (hE'.cellS (by rw[Z0 hk];rfl)))
 have Ib:firstV [ZC r0 r1 r2 r3 S,Z6r n k]=Z1e r0 r1 r2 r3 S k:=by rw[Z1e,A2]
 rw[Ib] at Gn;clear Ib;have Dp:w.heap.size<=w.heap.size+1+1:=by omega
 have I0:=Gn _ An hb hk hf;clear Gn hf;by_cases D5:Z1e r0 r1 r2 r3 S k=0
 ·have Aj:0<=k/\k<n:=by
   have h2:=firstV_all D5 (Z6r S.length k) (by simp);unfold Z6r at h2;rw[A2] at h2;split at h2
   ·assumption
   ·omega
  obtain⟨sh,Bb⟩:∃sh,S[k.toNat]? =some sh:=⟨_,List.getElem?_eq_getElem (by omega)⟩;rw[Zau,if_pos D5,Bb];simp only;rw[D5] at I0⊢;clear D5;obtain⟨b,off,rfl,Bg,hat⟩:=hS _ _ Bb;have hwd:=fun w Bg hat=>Z39 r0 r1 r2 r3 sh.a sh.m sh.M sh.wi sh.li k b off n cap w Aj.1 (by omega) Bg hat
  simp only[Zg,Z83] at hwd;go_enter func49,ntmps49
  go_wp2_with (first
   |(go_at_call 90;refine I0.mono ?_;rintro e w5 ⟨rfl,B6⟩;have Bz:=An.trans B6;have Nb:=B6.get hb;have hk5:=B6.get hk;have V7:=B6.get hz;have q0:=Z0 Nb 0;have q1:=Z0 Nb 1;have q2:=Z0 Nb 2;have q3:=Z0 Nb 3;have q4:=Z0 Nb 4;have q5:=Z0 hk5 0;simp only[List.getElem?_toArray,List.getElem?_cons_zero,List.getElem?_cons_succ] at q0 q1 q2 q3 q4 q5;clear hb hk hz)
   |(go_at_call 111;refine(hwd _ (Bz.lt Bg) ⟨Bz.cellS hat.c0,Bz.cellS hat.c1,Bz.cellS hat.c2,Bz.cellS hat.c3,Bz.cellS hat.c4⟩).mono ?_;rintro e w6 ⟨rfl,hG⟩;have G7:=Bz.trans hG.ext;have hz6:=hG.ext.get V7;have p:=Zc hz6;have p0:=p.1;have p1:=p.2.1;have p2:=p.2.2.1;have p3:=p.2.2.2;clear p))
  have hh:=Zc (set_pair hz6 (.int .i64 (lo sh.m sh.wi sh.li r2 r3)) (.int .i64 (hi sh.M sh.wi sh.li r2 r3)));have Tf:=hh.1;have Tg:=hh.2.1;refine bodyPost_ret (v:= .tuple #[.agg #[.int .i64 (lo sh.m sh.wi sh.li r2 r3),.int .i64 (hi sh.M sh.wi sh.li r2 r3)],.int .i64 0]) ((Z01 rfl _ _ _).trans ?_) rfl ⟨rfl,(G7.setCell _ _ Dp).setCell _ _ Dp⟩;simp[go_sem,Tf,Tg]
 ·have hx:(Z1e r0 r1 r2 r3 S k !=0)=true:=by simpa using D5
  rw[Zau,if_neg D5];clear D5;generalize Z1e r0 r1 r2 r3 S k=x at hx I0⊢;go_enter func49,ntmps49
  go_wp2_with (first
   |(go_at_call 90;refine I0.mono ?_;rintro e w5 ⟨rfl,B6⟩;have Bz:=An.trans B6;have V7:=B6.get hz;have p:=Zc V7;have p0:=p.1;have p1:=p.2.1;have p2:=p.2.2.1;have p3:=p.2.2.2;clear p hb hk hz))
  have hh:=Zc (set_pair V7 (.int .i64 0) (.int .i64 0));have Tf:=hh.1;have Tg:=hh.2.1;refine bodyPost_ret (v:= .tuple #[.agg #[.int .i64 0,.int .i64 0],.int .i64 x]) ((Z01 rfl _ _ _).trans ?_) rfl ⟨rfl,(Bz.setCell _ _ Dp).setCell _ _ Dp⟩;simp[go_sem,Tf,Tg]
end Go.Proofs.Tryq
