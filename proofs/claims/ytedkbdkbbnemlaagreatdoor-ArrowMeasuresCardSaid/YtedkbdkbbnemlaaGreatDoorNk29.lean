import Derived.Test.YtedkbdkbbnemlaaGreatDoorNk28
import Derived.Deep.AppendLies
set_option linter.all false
namespace Go.Proofs.Tryq
set_option maxRecDepth 100000
set_option maxHeartbeats 4000000
open Go Go.Nk Go.RowKit
theorem ZdG{x y:Sf}(h:nmL x=nmL y):x.nm=y.nm:=by
 have h2:x.nm.data=y.nm.data:=Array.toList_inj.1 h;cases hx:x.nm;cases hy:y.nm;rw[hx,hy] at h2;simp at h2;rw[h2]
theorem Z71{s t:ByteArray}(h:s.toList=t.toList):s=t:=by
 rw[ByteArray.toList_eq,ByteArray.toList_eq] at h;cases s;cases t;simp at h;rw[h]
theorem Z1P(a b c m:Int)(base:Option Addr)(n cap:Nat)(L:List Sf)(w:World)(A2:L.length=n)(Re:n<=1000000)(hS:RawA w base L):
 Calls prog 26 #[.agg #[.int .i64 a,.int .i64 b,.int .i64 c,.int .i64 m,.slice base n cap]] w fun e w'=>e= .returned (.int .i64 (Zp a b c m L))/\Ext w w':=by
 have hr:∀n hi w,Calls prog 93 #[.int .i64 n,.int .i64 0,.int .i64 hi] w fun e w'=>e= .returned (.bool (okA n hi))/\w'=w:=fun n hi w=>Z4r n 0 hi w
 have Ck:=fun w=>hr a 9999 w;have Cc:=fun w=>hr b 9999 w;have Fr:=fun w=>hr c 9999 w;have Ks:=fun w=>Z4r m 2 4 w
 clear hr;by_cases hR:Z2J a b c m=0
 ·have Hs:okA a 9999=true/\okA b 9999=true/\okA c 9999=true/\decide (2<=m/\m<=4)=true:=by
   unfold Z2J at hR;split at hR
   ·rename_i h;simp only[Bool.and_eq_true] at h;exact⟨h.1.1.1,h.1.1.2,h.1.2,h.2⟩
   ·cases hR
  simp only[Hs.1] at Ck;simp only[Hs.2.1] at Cc;simp only[Hs.2.2.1] at Fr;simp only[Hs.2.2.2] at Ks;have hF:Hid (Zp a b c m L=Zj L):=by
   show _=_;rw[Zp,firstV,if_pos hR];simp only[firstV];split
   ·rename_i h;exact h.symm
   ·rfl
  clear hR Hs;by_cases h9:9<L.length
  ·have H:Hid (Zp a b c m L=2):=by show _=_;rw[hF.out,Zj,if_pos h9]
   have Mm:(9:Int)<(n:Int):=by omega
   clear h9 hF;go_enter func26,ntmps26
   go_wp2_with (first
    |(go_at_call 93;(with_reducible refine(Ck _).mono ?_);rintro e w2 ⟨rfl,rfl⟩)
    |(go_at_call 93;(with_reducible refine(Cc _).mono ?_);rintro e w2 ⟨rfl,rfl⟩)
    |(go_at_call 93;(with_reducible refine(Fr _).mono ?_);rintro e w2 ⟨rfl,rfl⟩)
    |(go_at_call 93;(with_reducible refine(Ks _).mono ?_);rintro e w2 ⟨rfl,rfl⟩))
   go_ret;exact⟨ZK (a:=2) H.out.symm,((Ext.rfl' w).alloc _).alloc _⟩
  ·have H:Hid (Zp a b c m L=shA ((L.take 0).map nmL) (L.drop 0)):=by show _=_;rw[hF.out,Zj,if_neg h9];rfl
   have Mm:(n:Int)<=9:=by omega
   clear h9 hF;go_enter func26,ntmps26
   go_wp2_with (first
    |(go_at_call 93;(with_reducible refine(Ck _).mono ?_);rintro e w2 ⟨rfl,rfl⟩)
    |(go_at_call 93;(with_reducible refine(Cc _).mono ?_);rintro e w2 ⟨rfl,rfl⟩)
    |(go_at_call 93;(with_reducible refine(Fr _).mono ?_);rintro e w2 ⟨rfl,rfl⟩)
    |(go_at_call 93;(with_reducible refine(Ks _).mono ?_);rintro e w2 ⟨rfl,rfl⟩))
   clear Ck Cc Fr Ks;have B0:=((Ext.rfl' w).alloc (.cells #[.int .i64 a,.int .i64 b,.int .i64 c,.int .i64 m,.slice base n cap] 26)).alloc (.cells #[.int .i64 a,.int .i64 b,.int .i64 c,.int .i64 m] 23);go_loopw [4] (fun v wr=>∃i:Nat,i<=n/\v= .int .i64 i/\wr.heap[w.heap.size]? =some (.cells #[.int .i64 a,.int .i64 b,.int .i64 c,.int .i64 m,.slice base n cap] 26)/\Ext w wr/\Hid (Zp a b c m L=shA ((L.take i).map nmL) (L.drop i))) (fun v _=>n - (intOf v).toNat)
   case atStart=>exact⟨0,Nat.zero_le _,rfl,by simp only[Z3,Z2];rw[if_neg (by omega),if_pos trivial],B0,H⟩
   case round=>
    obtain⟨i,hi,rfl,hr,hE,hH⟩:=hrel;clear B0 H;have q4:=Z0 hr 4;simp only[List.getElem?_toArray,List.getElem?_cons_zero,List.getElem?_cons_succ] at q4;have hlr:=Z5 hr;by_cases Aq:i=n
    ·subst Aq;have hz:Hid (Zp a b c m L=0):=(by show _=_;rw[hH.out,<-A2,List.drop_length];rfl);clear hH;go_wp2;go_ret;exact⟨ZK (a:=0) hz.out.symm,hE⟩
    ·have A3:i<n:=(by omega);obtain⟨x,hx⟩:∃x,L[i]? =some x:=⟨_,List.getElem?_eq_getElem (by omega)⟩;have Ac:Hid (Zp a b c m L=if Z2d x.nm=false then 4 else if nmL x∈(L.take i).map nmL then 5 else if Z8b x=false then 1 else shA ((L.take (i+1)).map nmL) (L.drop (i+1))):=by
      show _=_;rw[hH.out,Z0b hx,shA,Z0G hx,List.map_append];rfl
     have Fm:=hS.ext hE;obtain⟨b',off,rfl,hb,⟨k0,k1,k2,k3,k4,k5,k6⟩,I5⟩:=Fm i x hx;have F8:=fun w=>Z70 x.nm w I5
     have C8:(0:Int)<=(i:Int):=(by omega);cases hnb:Z2d x.nm
     ·have Aw:Hid (Zp a b c m L=4):=(by show _=_;rw[Ac.out,if_pos hnb]);rw[hnb] at F8;clear hnb Ac hH hx
      go_wp2_with (first
       |(go_at_call 94;refine(F8 _).mono ?_;rintro e w2 ⟨rfl,rfl⟩))
      go_ret;exact⟨ZK (a:=4) Aw.out.symm,hE.alloc _⟩
     ·rw[hnb] at F8;have Hb:Hid (Zp a b c m L=if nmL x∈(L.take i).map nmL then 5 else if Z8b x=false then 1 else shA ((L.take (i+1)).map nmL) (L.drop (i+1))):=(by show _=_;rw[Ac.out,if_neg (by rw[hnb];simp)]);clear Ac hH hnb
      go_wp2_with (first
       |(go_at_call 94;refine(F8 _).mono ?_;rintro e w2 ⟨rfl,Ep⟩;subst Ep))
      have B4:=hE.alloc (.cells #[.string x.nm,.int .i64 x.a0,.int .i64 x.a1,.int .i64 x.b0,.int .i64 x.b1,.int .i64 x.c0,.int .i64 x.c1] 51);have Y8:(wr.alloc (.cells #[.string x.nm,.int .i64 x.a0,.int .i64 x.a1,.int .i64 x.b0,.int .i64 x.b1,.int .i64 x.c0,.int .i64 x.c1] 51)).heap[wr.heap.size]? =some (.cells #[.string x.nm,.int .i64 x.a0,.int .i64 x.a1,.int .i64 x.b0,.int .i64 x.b1,.int .i64 x.c0,.int .i64 x.c1] 51):=(by rw[Z3,if_pos rfl]);have M1:=((Ext.rfl' wr).alloc (.cells #[.string x.nm,.int .i64 x.a0,.int .i64 x.a1,.int .i64 x.b0,.int .i64 x.b1,.int .i64 x.c0,.int .i64 x.c1] 51)).get hr;have HN:Hid (nmL x∈(L.take i).map nmL↔nmL x∈((L.take i).drop 0).map nmL):=Iff.rfl;clear F8 k0 k1 k2 k3 k4 k5 k6 hr q4;have Nn:=Fm.ext ((Ext.rfl' wr).alloc (.cells #[.string x.nm,.int .i64 x.a0,.int .i64 x.a1,.int .i64 x.b0,.int .i64 x.b1,.int .i64 x.c0,.int .i64 x.c1] 51));generalize World.alloc wr _=V at Nn B4 Y8 M1⊢;obtain⟨wo,rfl⟩:∃wo:World,wo=wr:=⟨_,rfl⟩;go_loopw [6] (fun v wi=>∃k:Nat,k<=i/\v= .int .i64 k/\Ext V wi/\Hid (nmL x∈(L.take i).map nmL↔nmL x∈((L.take i).drop k).map nmL)) (fun v _=>i - (intOf v).toNat)
      case atStart=>exact⟨0,Nat.zero_le _,rfl,Ext.rfl' V,HN⟩
      case round=>
       obtain⟨k,hk,rfl,Pf,Pg⟩:=hrel;clear HN;have hrk:=Pf.get M1;have M3:=Pf.get Y8;have q4:=Z0 hrk 4;simp only[List.getElem?_toArray,List.getElem?_cons_zero,List.getElem?_cons_succ] at q4;by_cases F9:k=i
       ·subst F9;have K7:¬nmL x∈(L.take k).map nmL:=(by rw[Pg.out,List.drop_of_length_le (by rw[List.length_take];omega)];simp);have Fk:Hid (Zp a b c m L=if Z8b x=false then 1 else shA ((L.take (k+1)).map nmL) (L.drop (k+1))):=(by show _=_;rw[Hb.out,if_neg K7]);have y1:=Z0 M3 1;have y2:=Z0 M3 2;have y3:=Z0 M3 3;have y4:=Z0 M3 4;have y5:=Z0 M3 5;have y6:=Z0 M3 6;simp only[List.getElem?_toArray,List.getElem?_cons_zero,List.getElem?_cons_succ] at y1 y2 y3 y4 y5 y6;have Gx:∀w,Calls prog 95 #[.agg #[.int .i64 x.a0,.int .i64 x.a1],.int .i64 0,.int .i64 9999] w fun e w'=>e= .returned (.bool (ZF (spA x 0)))/\Ext w w':=fun w=>Z2e x.a0 x.a1 0 9999 w
        have Dy:∀w,Calls prog 95 #[.agg #[.int .i64 x.b0,.int .i64 x.b1],.int .i64 0,.int .i64 9999] w fun e w'=>e= .returned (.bool (ZF (spA x 1)))/\Ext w w':=fun w=>Z2e x.b0 x.b1 0 9999 w
        have M8:∀w,Calls prog 95 #[.agg #[.int .i64 x.c0,.int .i64 x.c1],.int .i64 0,.int .i64 9999] w fun e w'=>e= .returned (.bool (ZF (spA x 2)))/\Ext w w':=fun w=>Z2e x.c0 x.c1 0 9999 w
        have Bi:Z8b x=(ZF (spA x 0)&&ZF (spA x 1)&&ZF (spA x 2)):=rfl;have Cz:=B4.trans Pf;have Aj:=M3;have De:=hrk;clear Hb Pg K7 hx Y8 Pf;cases h1:ZF (spA x 0) with
        |false=>
         simp only[h1] at Gx;have Aw:Hid (Zp a b c m L=1):=(by show _=_;rw[Fk.out,if_pos (by rw[Bi,h1];simp)]);clear Fk Bi
         go_wp2_with (first
          |(go_at_call 95;(with_reducible refine(Gx _).mono ?_);rintro e w2 ⟨rfl,A7⟩;replace Cz:=Cz.trans A7;replace Aj:=A7.get Aj;replace De:=A7.get De;clear A7 y1 y2 y3 y4 y5 y6;have y1:=Z0 Aj 1;have y2:=Z0 Aj 2;have y3:=Z0 Aj 3;have y4:=Z0 Aj 4;have y5:=Z0 Aj 5;have y6:=Z0 Aj 6;simp only[List.getElem?_toArray,List.getElem?_cons_zero,List.getElem?_cons_succ] at y1 y2 y3 y4 y5 y6)
          |(go_at_call 95;(with_reducible refine(Dy _).mono ?_);rintro e w2 ⟨rfl,A7⟩;replace Cz:=Cz.trans A7;replace Aj:=A7.get Aj;replace De:=A7.get De;clear A7 y1 y2 y3 y4 y5 y6;have y1:=Z0 Aj 1;have y2:=Z0 Aj 2;have y3:=Z0 Aj 3;have y4:=Z0 Aj 4;have y5:=Z0 Aj 5;have y6:=Z0 Aj 6;simp only[List.getElem?_toArray,List.getElem?_cons_zero,List.getElem?_cons_succ] at y1 y2 y3 y4 y5 y6)
          |(go_at_call 95;(with_reducible refine(M8 _).mono ?_);rintro e w2 ⟨rfl,A7⟩;replace Cz:=Cz.trans A7;replace Aj:=A7.get Aj;replace De:=A7.get De;clear A7 y1 y2 y3 y4 y5 y6;have y1:=Z0 Aj 1;have y2:=Z0 Aj 2;have y3:=Z0 Aj 3;have y4:=Z0 Aj 4;have y5:=Z0 Aj 5;have y6:=Z0 Aj 6;simp only[List.getElem?_toArray,List.getElem?_cons_zero,List.getElem?_cons_succ] at y1 y2 y3 y4 y5 y6))
         go_ret;exact⟨ZK (a:=1) Aw.out.symm,Cz⟩
        |true=>
         simp only[h1] at Gx;cases h2:ZF (spA x 1) with
         |false=>
          simp only[h2] at Dy;have Aw:Hid (Zp a b c m L=1):=(by show _=_;rw[Fk.out,if_pos (by rw[Bi,h1,h2];simp)]);clear Fk Bi
          go_wp2_with (first
           |(go_at_call 95;(with_reducible refine(Gx _).mono ?_);rintro e w2 ⟨rfl,A7⟩;replace Cz:=Cz.trans A7;replace Aj:=A7.get Aj;replace De:=A7.get De;clear A7 y1 y2 y3 y4 y5 y6;have y1:=Z0 Aj 1;have y2:=Z0 Aj 2;have y3:=Z0 Aj 3;have y4:=Z0 Aj 4;have y5:=Z0 Aj 5;have y6:=Z0 Aj 6;simp only[List.getElem?_toArray,List.getElem?_cons_zero,List.getElem?_cons_succ] at y1 y2 y3 y4 y5 y6)
           |(go_at_call 95;(with_reducible refine(Dy _).mono ?_);rintro e w2 ⟨rfl,A7⟩;replace Cz:=Cz.trans A7;replace Aj:=A7.get Aj;replace De:=A7.get De;clear A7 y1 y2 y3 y4 y5 y6;have y1:=Z0 Aj 1;have y2:=Z0 Aj 2;have y3:=Z0 Aj 3;have y4:=Z0 Aj 4;have y5:=Z0 Aj 5;have y6:=Z0 Aj 6;simp only[List.getElem?_toArray,List.getElem?_cons_zero,List.getElem?_cons_succ] at y1 y2 y3 y4 y5 y6)
           |(go_at_call 95;(with_reducible refine(M8 _).mono ?_);rintro e w2 ⟨rfl,A7⟩;replace Cz:=Cz.trans A7;replace Aj:=A7.get Aj;replace De:=A7.get De;clear A7 y1 y2 y3 y4 y5 y6;have y1:=Z0 Aj 1;have y2:=Z0 Aj 2;have y3:=Z0 Aj 3;have y4:=Z0 Aj 4;have y5:=Z0 Aj 5;have y6:=Z0 Aj 6;simp only[List.getElem?_toArray,List.getElem?_cons_zero,List.getElem?_cons_succ] at y1 y2 y3 y4 y5 y6))
          go_ret;exact⟨ZK (a:=1) Aw.out.symm,Cz⟩
         |true=>
          simp only[h2] at Dy;cases h3:ZF (spA x 2) with
          |false=>
           simp only[h3] at M8;have Aw:Hid (Zp a b c m L=1):=(by show _=_;rw[Fk.out,if_pos (by rw[Bi,h1,h2,h3];simp)]);clear Fk Bi
           go_wp2_with (first
            |(go_at_call 95;(with_reducible refine(Gx _).mono ?_);rintro e w2 ⟨rfl,A7⟩;replace Cz:=Cz.trans A7;replace Aj:=A7.get Aj;replace De:=A7.get De;clear A7 y1 y2 y3 y4 y5 y6;have y1:=Z0 Aj 1;have y2:=Z0 Aj 2;have y3:=Z0 Aj 3;have y4:=Z0 Aj 4;have y5:=Z0 Aj 5;have y6:=Z0 Aj 6;simp only[List.getElem?_toArray,List.getElem?_cons_zero,List.getElem?_cons_succ] at y1 y2 y3 y4 y5 y6)
            |(go_at_call 95;(with_reducible refine(Dy _).mono ?_);rintro e w2 ⟨rfl,A7⟩;replace Cz:=Cz.trans A7;replace Aj:=A7.get Aj;replace De:=A7.get De;clear A7 y1 y2 y3 y4 y5 y6;have y1:=Z0 Aj 1;have y2:=Z0 Aj 2;have y3:=Z0 Aj 3;have y4:=Z0 Aj 4;have y5:=Z0 Aj 5;have y6:=Z0 Aj 6;simp only[List.getElem?_toArray,List.getElem?_cons_zero,List.getElem?_cons_succ] at y1 y2 y3 y4 y5 y6)
            |(go_at_call 95;(with_reducible refine(M8 _).mono ?_);rintro e w2 ⟨rfl,A7⟩;replace Cz:=Cz.trans A7;replace Aj:=A7.get Aj;replace De:=A7.get De;clear A7 y1 y2 y3 y4 y5 y6;have y1:=Z0 Aj 1;have y2:=Z0 Aj 2;have y3:=Z0 Aj 3;have y4:=Z0 Aj 4;have y5:=Z0 Aj 5;have y6:=Z0 Aj 6;simp only[List.getElem?_toArray,List.getElem?_cons_zero,List.getElem?_cons_succ] at y1 y2 y3 y4 y5 y6))
           go_ret;exact⟨ZK (a:=1) Aw.out.symm,Cz⟩
          |true=>
           simp only[h3] at M8;have Aw:Hid (Zp a b c m L=shA ((L.take (k+1)).map nmL) (L.drop (k+1))):=(by show _=_;rw[Fk.out,if_neg (by rw[Bi,h1,h2,h3];simp)]);clear Fk Bi
           go_wp2_with (first
            |(go_at_call 95;(with_reducible refine(Gx _).mono ?_);rintro e w2 ⟨rfl,A7⟩;replace Cz:=Cz.trans A7;replace Aj:=A7.get Aj;replace De:=A7.get De;clear A7 y1 y2 y3 y4 y5 y6;have y1:=Z0 Aj 1;have y2:=Z0 Aj 2;have y3:=Z0 Aj 3;have y4:=Z0 Aj 4;have y5:=Z0 Aj 5;have y6:=Z0 Aj 6;simp only[List.getElem?_toArray,List.getElem?_cons_zero,List.getElem?_cons_succ] at y1 y2 y3 y4 y5 y6)
            |(go_at_call 95;(with_reducible refine(Dy _).mono ?_);rintro e w2 ⟨rfl,A7⟩;replace Cz:=Cz.trans A7;replace Aj:=A7.get Aj;replace De:=A7.get De;clear A7 y1 y2 y3 y4 y5 y6;have y1:=Z0 Aj 1;have y2:=Z0 Aj 2;have y3:=Z0 Aj 3;have y4:=Z0 Aj 4;have y5:=Z0 Aj 5;have y6:=Z0 Aj 6;simp only[List.getElem?_toArray,List.getElem?_cons_zero,List.getElem?_cons_succ] at y1 y2 y3 y4 y5 y6)
            |(go_at_call 95;(with_reducible refine(M8 _).mono ?_);rintro e w2 ⟨rfl,A7⟩;replace Cz:=Cz.trans A7;replace Aj:=A7.get Aj;replace De:=A7.get De;clear A7 y1 y2 y3 y4 y5 y6;have y1:=Z0 Aj 1;have y2:=Z0 Aj 2;have y3:=Z0 Aj 3;have y4:=Z0 Aj 4;have y5:=Z0 Aj 5;have y6:=Z0 Aj 6;simp only[List.getElem?_toArray,List.getElem?_cons_zero,List.getElem?_cons_succ] at y1 y2 y3 y4 y5 y6))
           exact⟨⟨k+1,by omega,by push_cast;rfl,De,Cz,Aw⟩,by simp[intOf];omega⟩
       ·have Ya:k<i:=(by omega);obtain⟨y,hy⟩:∃y,L[k]? =some y:=⟨_,List.getElem?_eq_getElem (by omega)⟩;obtain⟨b2,off2,Gq,Ar,hky,hnmy⟩:=(Nn.ext Pf) k y hy;obtain⟨rfl,rfl⟩:b'=b2/\off=off2:=(by simpa using Gq);have Bb:=hky.1;have B9:=Z0 M3 0;simp only[List.getElem?_toArray,List.getElem?_cons_zero] at B9;have Cf:¬n<=k:=(by omega);have Ex:nmL x∈((L.take i).drop k).map nmL↔nmL x=nmL y\/nmL x∈((L.take i).drop (k+1)).map nmL:=by
         have hty:(L.take i)[k]? =some y:=(by rw[List.getElem?_take,if_pos Ya];exact hy);rw[Z0b hty,List.map_cons,List.mem_cons]
        go_wp2_with fail
        have gz0:=Zet q4;have gz1:=Zet Bb;have gz2:=Zet B9;refine ZeG 9 (by kernel_rfl) ?_;refine ZeB [0,1,2,3,4,5,6,7,8] (by kernel_rfl) (by kernel_rfl) ?_;simp only[ZeD,List.getElem?_cons_succ,List.getElem?_cons_zero,List.cons_append,List.nil_append]
        repeat (go_big_quiet_step (fail))
        refine wpQuiet_nil ?_;refine Zf6 (by kernel_rfl) (fun W hW=> ?_);have B7:=hW;clear gz0 gz1 gz2;have T8:=Pf.trans B7;by_cases Cl:nmL x=nmL y
        ·have he:(y.nm.toList==x.nm.toList)=true:=(by simp[ZdG Cl]);have Aw:Hid (Zp a b c m L=5):=(by show _=_;rw[Hb.out,if_pos (Pg.out.2 (Ex.2 (.inl Cl)))]);rw[he];clear he Hb Pg Ex;go_wp2;go_ret;exact⟨ZK (a:=5) Aw.out.symm,B4.trans T8⟩
        ·have he:(y.nm.toList==x.nm.toList)=false:=by
          rw[beq_eq_false_iff_ne];intro h;exact Cl (by rw[nmL,nmL,(Z71 h).symm])
         have Ox:Hid (nmL x∈(L.take i).map nmL↔nmL x∈((L.take i).drop (k+1)).map nmL):=(by show _↔_;rw[Pg.out,Ex];simp[Cl]);rw[he];clear he Pg Ex;go_wp2;go_roundw
         case rel=>exact⟨k+1,by omega,by push_cast;rfl,T8,Ox⟩
         case measure=>simp[intOf];omega
 ·have Og:Z2J a b c m=1:=by
   unfold Z2J at hR⊢;split at hR
   ·exact absurd rfl hR
   ·rw[if_neg (by assumption)]
  have hF:Hid (Zp a b c m L=1):=by show _=_;rw[Zp,firstV,if_neg hR,Og]
  have Hs:(okA a 9999&&okA b 9999&&okA c 9999&&decide (2<=m/\m<=4))=false:=by
   unfold Z2J at hR;split at hR
   ·exact absurd rfl hR
   ·rename_i h;simpa using h
  clear hR Og;cases h1:okA a 9999 with
  |false=>
   simp only[h1] at Ck;clear Hs h1;go_enter func26,ntmps26
   go_wp2_with (first
    |(go_at_call 93;(with_reducible refine(Ck _).mono ?_);rintro e w2 ⟨rfl,rfl⟩)
    |(go_at_call 93;(with_reducible refine(Cc _).mono ?_);rintro e w2 ⟨rfl,rfl⟩)
    |(go_at_call 93;(with_reducible refine(Fr _).mono ?_);rintro e w2 ⟨rfl,rfl⟩)
    |(go_at_call 93;(with_reducible refine(Ks _).mono ?_);rintro e w2 ⟨rfl,rfl⟩))
   go_ret;exact⟨ZK (a:=1) hF.out.symm,((Ext.rfl' w).alloc _).alloc _⟩
  |true=>
   simp only[h1] at Ck;cases h2:okA b 9999 with
   |false=>
    simp only[h2] at Cc;clear Hs h1 h2;go_enter func26,ntmps26
    go_wp2_with (first
     |(go_at_call 93;(with_reducible refine(Ck _).mono ?_);rintro e w2 ⟨rfl,rfl⟩)
     |(go_at_call 93;(with_reducible refine(Cc _).mono ?_);rintro e w2 ⟨rfl,rfl⟩)
     |(go_at_call 93;(with_reducible refine(Fr _).mono ?_);rintro e w2 ⟨rfl,rfl⟩)
     |(go_at_call 93;(with_reducible refine(Ks _).mono ?_);rintro e w2 ⟨rfl,rfl⟩))
    go_ret;exact⟨ZK (a:=1) hF.out.symm,((Ext.rfl' w).alloc _).alloc _⟩
   |true=>
    simp only[h2] at Cc;cases h3:okA c 9999 with
    |false=>
     simp only[h3] at Fr;clear Hs h1 h2 h3;go_enter func26,ntmps26
     go_wp2_with (first
      |(go_at_call 93;(with_reducible refine(Ck _).mono ?_);rintro e w2 ⟨rfl,rfl⟩)
      |(go_at_call 93;(with_reducible refine(Cc _).mono ?_);rintro e w2 ⟨rfl,rfl⟩)
      |(go_at_call 93;(with_reducible refine(Fr _).mono ?_);rintro e w2 ⟨rfl,rfl⟩)
      |(go_at_call 93;(with_reducible refine(Ks _).mono ?_);rintro e w2 ⟨rfl,rfl⟩))
     go_ret;exact⟨ZK (a:=1) hF.out.symm,((Ext.rfl' w).alloc _).alloc _⟩
    |true=>
     simp only[h3] at Fr;have h4:decide (2<=m/\m<=4)=false:=(by rw[h1,h2,h3] at Hs;simpa using Hs);simp only[h4] at Ks;clear Hs h1 h2 h3 h4;go_enter func26,ntmps26
     go_wp2_with (first
      |(go_at_call 93;(with_reducible refine(Ck _).mono ?_);rintro e w2 ⟨rfl,rfl⟩)
      |(go_at_call 93;(with_reducible refine(Cc _).mono ?_);rintro e w2 ⟨rfl,rfl⟩)
      |(go_at_call 93;(with_reducible refine(Fr _).mono ?_);rintro e w2 ⟨rfl,rfl⟩)
      |(go_at_call 93;(with_reducible refine(Ks _).mono ?_);rintro e w2 ⟨rfl,rfl⟩))
     go_ret;exact⟨ZK (a:=1) hF.out.symm,((Ext.rfl' w).alloc _).alloc _⟩
end Go.Proofs.Tryq
namespace Go.Proofs.Tryq
open Go Go.Nk Go.RowKit
set_option linter.all false
theorem Zib{P:Program}{ops:Array Oper}{R:Exit->Act->World->Prop}{t:Nat}{l:List Nat}(k:Nat){o:Oper}{v:Value}{a:Act}{w:World}{f:FuncId}{args:Array Value}(hs:okT ops t=true)(hi:ops[k]? =some o)(hf:Zil ops t l k=true)(hw:Region.wanted o (yielded ops a.tmps)=true)
 (hr:∀W,(execOp a.eval o).run P W= .ok (.enter f args) W)(hc:∀W,Ext w W->Calls P f args W fun e W'=>e= .returned v/\Ext W W')(h:LX P ops R t (k::l) (a.put o.dst v) w):LX P ops R t l a w:=
 Zim hs hi hf (.inl ⟨hw,fun W hW=>by unfold YV;rw[hr W];exact⟨Ext.rfl' W,hc W hW⟩⟩) h
theorem Zl5{P:Program}{ops:Array Oper}{R:Exit->Act->World->Prop}{t:Nat}{l:List Nat}(k:Nat){o:Oper}{v:Value}{a:Act}{w:World}(hs:okT ops t=true)(hi:ops[k]? =some o)(hf:Zil ops t l k=true)(hw:Region.wanted o (yielded ops a.tmps)=true)
 (hr:∀W,(execOp a.eval o).run P W= .ok (.value v) W)(h:LX P ops R t (k::l) (a.put o.dst v) w):LX P ops R t l a w:=
 Zim hs hi hf (.inl ⟨hw,fun W hW=>by unfold YV;rw[hr W];exact⟨rfl,Ext.rfl' W⟩⟩) h
end Go.Proofs.Tryq
namespace Go.Proofs.Tryq
set_option maxRecDepth 100000
set_option maxHeartbeats 2000000
open Go Go.Nk Go.RowKit
def Z1B(L:List Sf):Bool:=decide (20<L.length)||L.any fun x=>decide (100<x.nm.size)
theorem ZaR(a b c m:Int)(base:Option Addr)(n cap:Nat)(L:List Sf)(w:World)(A2:L.length=n)(hS:RawA w base L):
 Calls prog 21 #[.agg #[.int .i64 a,.int .i64 b,.int .i64 c,.int .i64 m,.slice base n cap]] w fun e w'=>e= .returned (.bool (Z1B L))/\Ext w w':=by
 by_cases Na:20<L.length
 ·have hz:Z1B L=true:=by rw[Z1B,decide_eq_true Na,Bool.true_or]
  have hn:(20:Int)<(n:Int):=by omega
  rw[hz];clear Na hz;go_enter func21,ntmps21;go_wp2;go_ret;exact⟨rfl,(Ext.rfl' w).alloc _⟩
 ·have hn:(n:Int)<=20:=by omega
  have H:Hid (Z1B L=(L.drop 0).any fun x=>decide (100<x.nm.size)):=by show _=_;rw[Z1B,decide_eq_false Na,Bool.false_or];rfl
  clear Na;go_enter func21,ntmps21;go_wp2;go_loopw [3] (fun v wr=>∃i:Nat,i<=n/\v= .int .i64 i/\wr.heap[w.heap.size]? =some (.cells #[.int .i64 a,.int .i64 b,.int .i64 c,.int .i64 m,.slice base n cap] 26)/\Ext w wr/\Hid (Z1B L=(L.drop i).any fun x=>decide (100<x.nm.size))) (fun v _=>n - (intOf v).toNat)
  case atStart=>exact⟨0,Nat.zero_le _,rfl,by rw[Z3,if_pos rfl],(Ext.rfl' w).alloc _,H⟩
  case round=>
   obtain⟨i,hi,rfl,hr,hE,hH⟩:=hrel;clear H;have q4:=Z0 hr 4;simp only[List.getElem?_toArray,List.getElem?_cons_zero,List.getElem?_cons_succ] at q4;by_cases Aq:i=n
   ·subst Aq;have hz:Z1B L=false:=(by rw[hH.out,<-A2,List.drop_length];rfl);go_wp2;go_ret;exact⟨ZP (a:=false) hz.symm,hE⟩
   ·have A3:i<n:=(by omega);obtain⟨x,hx⟩:∃x,L[i]? =some x:=⟨_,List.getElem?_eq_getElem (by omega)⟩;obtain⟨b',off,rfl,hb,hs,I5⟩:=(hS.ext hE) i x hx;have k0:=hs.1;have Ac:Hid (Z1B L=(decide (100<x.nm.size)||(L.drop (i+1)).any fun x=>decide (100<x.nm.size))):=(by show _=_;rw[hH.out,Z0b hx,List.any_cons]);clear hH hx;unfold maxLen at I5;have Ex:¬n<=i:=(by omega);by_cases h1:100<x.nm.size
    ·have hz:Z1B L=true:=(by rw[Ac.out,decide_eq_true h1,Bool.true_or]);have h1':(100:Int)<(x.nm.size:Int):=(by omega);clear Ac h1;go_wp2;go_ret;exact⟨ZP (a:=true) hz.symm,hE⟩
    ·have Ee:Hid (Z1B L=(L.drop (i+1)).any fun x=>decide (100<x.nm.size)):=(by show _=_;rw[Ac.out,decide_eq_false h1,Bool.false_or]);have h1':(x.nm.size:Int)<=100:=(by omega);clear Ac h1;go_wp2;exact⟨⟨i+1,by omega,by push_cast;rfl,hr,hE,Ee⟩,by simp[intOf];omega⟩
end Go.Proofs.Tryq
namespace Go.Proofs.Tryq
open Go Go.Nk Go.RowKit
set_option linter.all false
set_option linter.all false
def InM(L:List Sf)(R:Nat->Nat->Int):Prop:=∀(i:Nat)(x:Sf),L[i]? =some x->∀k:Nat,k<3->(spA x k).1<=R i k/\R i k<=(spA x k).2
structure StockOk(a b c m:Int)(L:List Sf):Prop where
 r:∀k,0<=alw a b c k/\alw a b c k<=9999
 m:2<=m/\m<=4
 len:L.length<=9
 ok:∀x∈L,∀k,0<=(spA x k).1/\(spA x k).1<=(spA x k).2/\(spA x k).2<=9999
section
variable {a b c m:Int} {L:List Sf} (hs:StockOk a b c m L) {l:List Int} (hl:l.Pairwise (·<·)) (Aq:∀i∈l,0<=i/\i<L.length) {R:Nat->Nat->Int} (hR:InM L R)
include hs hl Aq hR
end
def Zl9(x:Sf)(k:Nat)(p:Int×Int):Sf:=match k with
 |0=>{x with a0:=p.1,a1:=p.2}
 |1=>{x with b0:=p.1,b1:=p.2}
 |_=>{x with c0:=p.1,c1:=p.2}
theorem Zle(x:Sf)(k:Nat)(p:Int×Int):(Zl9 x k p).nm=x.nm:=by unfold Zl9;split<;>rfl
def Zla(L:List Sf)(i k:Nat)(p:Int×Int):List Sf:=match L[i]? with
 |some x=>L.set i (Zl9 x k p)
 |none=>L
theorem Zlb(L:List Sf)(i k:Nat)(p:Int×Int):(Zla L i k p).length=L.length:=by unfold Zla;split<;>simp
theorem Zlc{L:List Sf}{i k:Nat}{p:Int×Int}{j:Nat}{x':Sf}(h:(Zla L i k p)[j]? =some x'):∃x,L[j]? =some x/\x'=if j=i then Zl9 x k p else x:=by
 unfold Zla at h;split at h
 ·rename_i x hx;by_cases e:j=i
  ·subst e;have A3:=(List.getElem?_eq_some_iff.1 hx).1;rw[List.getElem?_set_self A3] at h;exact⟨x,hx,by rw[if_pos rfl];exact(Option.some.inj h).symm⟩
  ·rw[List.getElem?_set_ne (Ne.symm e)] at h;exact⟨x',h,by rw[if_neg e]⟩
 ·rename_i hx;refine⟨x',h,?_⟩;rw[if_neg];rintro rfl;rw[hx] at h;cases h
end Go.Proofs.Tryq
namespace Go.Proofs.Tryq
set_option maxRecDepth 100000
set_option maxHeartbeats 4000000
open Go Go.Nk Go.RowKit
set_option linter.all false
theorem Zl6{base:Nat}{w:World}{v:Value}{n:Nat}{L:List Sf}(h:w.ownsRow base 51 7 v n (ZkU L))(hn:L.length=n):OwnA base w v L:=by subst hn;exact h
theorem Zl4(base:Option Addr)(n cap:Nat)(L:List Sf)(w:World)(hn:L.length=n)(h0:0<n)(h1:n<=100)(hL:RawA w base L):
 Calls prog 130 #[.slice base n cap] w fun e w'=>∃g' cap',e= .returned (.slice (some ⟨g',0,none⟩) n cap')/\OwnA w.heap.size w' (.slice (some ⟨g',0,none⟩) n cap') L/\Ext w w':=by
 obtain⟨x0,B9⟩:∃x,L[0]? =some x:=⟨_,List.getElem?_eq_getElem (by omega)⟩;obtain⟨g,o,rfl,_,_⟩:=hL 0 x0 B9
 have hb:∀w,(binOp .eql 24 (.slice (some ⟨g,o,none⟩) n cap) (.slice none 0 0)).run prog w= .ok (.bool false) w:=fun w=>by
  simp[go_sem,binOp,run_equal_slice_nil w 24 51 _ n cap u24]
 have hX:∀(j:Nat) u,(ZkU L)[j]? =some u->(w.alloc (.cells #[] 51)).cell? ((⟨g,o,none⟩:Addr).add j)=some u:=by
  intro j u hu;exact((Ext.rfl' w).alloc _).cellS (ZkQ hL j u hu)
 clear B9 hL;go_enter func130,ntmps130
 go_wp2_with (
  at_builtin
  refine wpList_append_own _ rfl _ _ _ rfl w.heap.size 51 Tryz.t51 _ 7 64 u24 i51 t51z t51s t51b rfl (by omega) _ 0 [] rfl (ZkR ((Z3 _ _ _).trans (if_pos rfl)) (Nat.le_refl _)) ⟨g,o,none⟩ n cap (ZkU L) rfl (by rw[sfsV_len,hn]) hX (Zl3 L) (by simp[maxLen];omega) (by omega) (by simp) ?_;intro v' w3 Ad Ab _;replace Ad:w3.ownsRow w.heap.size 51 7 v' n (ZkU L):=by simpa using Ad
  obtain⟨g',cp',rfl,R3,R4⟩:=World.ownsRow.form Ad (by omega);have Az:(w.alloc (.cells #[] 51)).grownBy w3 (some w.heap.size):=Ab;have Av:Ext w w3:=((Ext.rfl' w).alloc _).grown Az (fun k hk=>by cases hk;exact Nat.le_refl _))
 go_ret;exact⟨g',cp',rfl,Zl6 Ad hn,Av⟩
theorem ZkT{w:World}{g:Nat}{cur:Array Value}{t:TypeId}{L:List Sf}(hb:w.heap[g]? =some (.cells cur t))(h:RawA w (some ⟨g,0,none⟩) L){i k K:Nat}(hi:i<L.length)(hk:k<3)(hK:K=1+2*k)(p q:Int):
 RawA ((w.setCell ⟨g,i*7+K,none⟩ (.int .i64 p)).setCell ⟨g,i*7+K+1,none⟩ (.int .i64 q)) (some ⟨g,0,none⟩) (Zla L i k (p,q)):=by
 intro j x' hx';obtain⟨x,hx,rfl⟩:=Zlc hx';obtain⟨b,o,e,A3,sh,hn⟩:=h j x hx;obtain⟨rfl,rfl⟩:g=b/\0=o:=by simpa using e
 have Ar:=Zb (i:=i*7+K+1) (Zb (i:=i*7+K) hb (.int .i64 p)) (.int .i64 q);have Ay:j*7+6<cur.size:=by
  have:=sh.k6;rw[Z0 hb] at this;have:=(Array.getElem?_eq_some_iff.1 this).1;omega
 generalize (w.setCell ⟨g,i*7+K,none⟩ (.int .i64 p)).setCell ⟨g,i*7+K+1,none⟩ (.int .i64 q)=W at Ar⊢;have G:∀o v,w.cell? ⟨g,o,none⟩=some v->¬o=i*7+K->¬o=i*7+K+1->W.cell? ⟨g,o,none⟩=some v:=by
  intro o v ho h1 h2;rw[Z0 hb] at ho;rw[Z0 Ar,Array.getElem?_setIfInBounds_ne (fun h=>h2 h.symm),Array.getElem?_setIfInBounds_ne (fun h=>h1 h.symm),ho]
 have G1:j=i->W.cell? ⟨g,i*7+K,none⟩=some (.int .i64 p):=by
  rintro rfl;rw[Z0 Ar,Array.getElem?_setIfInBounds_ne (by omega),Array.getElem?_setIfInBounds_self_of_lt (by omega)]
 have G2:j=i->W.cell? ⟨g,i*7+K+1,none⟩=some (.int .i64 q):=by
  rintro rfl;rw[Z0 Ar,Array.getElem?_setIfInBounds_self_of_lt (by rw[Array.size_setIfInBounds];omega)]
 refine⟨g,0,rfl,Z5 Ar,?_,?_⟩
 ·by_cases Al:j=i
  ·subst Al;rw[if_pos rfl];have G1:=G1 rfl;have G2:=G2 rfl
   match k,hk with
   |0,_=>exact⟨G _ _ sh.k0 (by omega) (by omega),by simpa[Zl9,hK] using G1,by simpa[Zl9,hK] using G2,G _ _ sh.k3 (by omega) (by omega),G _ _ sh.k4 (by omega) (by omega),G _ _ sh.k5 (by omega) (by omega),G _ _ sh.k6 (by omega) (by omega)⟩
   |1,_=>exact⟨G _ _ sh.k0 (by omega) (by omega),G _ _ sh.k1 (by omega) (by omega),G _ _ sh.k2 (by omega) (by omega),by simpa[Zl9,hK] using G1,by simpa[Zl9,hK] using G2,G _ _ sh.k5 (by omega) (by omega),G _ _ sh.k6 (by omega) (by omega)⟩
   |2,_=>exact⟨G _ _ sh.k0 (by omega) (by omega),G _ _ sh.k1 (by omega) (by omega),G _ _ sh.k2 (by omega) (by omega),G _ _ sh.k3 (by omega) (by omega),G _ _ sh.k4 (by omega) (by omega),by simpa[Zl9,hK] using G1,by simpa[Zl9,hK] using G2⟩
  ·rw[if_neg Al];exact⟨G _ _ sh.k0 (by omega) (by omega),G _ _ sh.k1 (by omega) (by omega),G _ _ sh.k2 (by omega) (by omega),G _ _ sh.k3 (by omega) (by omega),G _ _ sh.k4 (by omega) (by omega),G _ _ sh.k5 (by omega) (by omega),G _ _ sh.k6 (by omega) (by omega)⟩
 ·split
  ·rw[Zle];exact hn
  ·exact hn
set_option linter.all false
theorem OwnA.block{w:World}{base g n cap:Nat}{L:List Sf}(h:OwnA base w (.slice (some ⟨g,0,none⟩) n cap) L):∃cur,w.heap[g]? =some (.cells cur 51):=by
 rcases h.2 with⟨h1,_⟩|⟨g2,cap2,cur,e,_,hg,_⟩
 ·cases h1
 ·cases e;exact⟨cur,hg⟩
theorem ZkJ{w w':World}{g O:Nat}{S:List Sf}(h:RawA w (some ⟨g,O,none⟩) S)(e:w'.heap[g]? =w.heap[g]?):RawA w' (some ⟨g,O,none⟩) S:=by
 intro i s hs;obtain⟨b,off,e1,hb,sh,hz⟩:=h i s hs;obtain⟨rfl,rfl⟩:g=b/\O=off:=by simpa using e1
 have hc:∀o,w'.cell? ⟨g,o,none⟩=w.cell? ⟨g,o,none⟩:=fun o=>by simp only[World.cell?,e]
 have hb':g<w'.heap.size:=by
  rw[Array.getElem?_eq_getElem hb] at e;exact(Array.getElem?_eq_some_iff.1 e).1
 exact⟨g,O,rfl,hb',⟨by rw[hc];exact sh.k0,by rw[hc];exact sh.k1,by rw[hc];exact sh.k2,by rw[hc];exact sh.k3,by rw[hc];exact sh.k4,by rw[hc];exact sh.k5,by rw[hc];exact sh.k6⟩,hz⟩
theorem Zld{w:World}{b o:Nat}{x:Sf}{k:Nat}(h:ShaftAt w b o x)(hk:k<3):w.cell? ⟨b,o+(1+2*k),none⟩=some (.int .i64 (spA x k).1)/\w.cell? ⟨b,o+(1+2*k)+1,none⟩=some (.int .i64 (spA x k).2):=by
 obtain rfl|rfl|rfl:k=0\/k=1\/k=2:=by omega
 ·exact⟨h.k1,h.k2⟩
 ·exact⟨h.k3,h.k4⟩
 ·exact⟨h.k5,h.k6⟩
theorem Zlf(a b c m p q:Int)(base:Option Addr)(n cap i k:Nat)(L:List Sf)(w:World)(hn:L.length=n)(h1:n<=100)(hi:i<n)(hk:k<3)(hL:RawA w base L):
 Calls prog 35 #[.agg #[.int .i64 a,.int .i64 b,.int .i64 c,.int .i64 m,.slice base n cap],.int .i64 i,.int .i64 k,.agg #[.int .i64 p,.int .i64 q]] w fun e w'=>∃g' cap',e= .returned (.agg #[.int .i64 a,.int .i64 b,.int .i64 c,.int .i64 m,.slice (some ⟨g',0,none⟩) n cap'])/\n<=cap'/\w.heap.size<=g'/\RawA w' (some ⟨g',0,none⟩) (Zla L i k (p,q))/\Ext w w':=by
 obtain⟨x0,B9⟩:∃x,L[0]? =some x:=⟨_,List.getElem?_eq_getElem (by omega)⟩;obtain⟨g,o,rfl,Vb,_⟩:=hL 0 x0 B9;have I5:=hL.size;have hX:=ZkQ hL;have hXl:=sfsV_len L;clear B9 hL;have Aq:(i:Int)<(n:Int):=by omega
 obtain⟨K,hK⟩:∃K,K=1+2*k:=⟨_,rfl⟩;have X6:(k=0/\K=1)\/(k=1/\K=3)\/(k=2/\K=5):=by omega
 rcases X6 with⟨rfl,rfl⟩|⟨rfl,rfl⟩|⟨rfl,rfl⟩
 all_goals
  clear hK;go_enter func35,ntmps35
  go_wp2_with (
   at_builtin
   go_loud (
   have hE:=((((Ext.rfl' w).alloc (.cells #[.int .i64 a,.int .i64 b,.int .i64 c,.int .i64 m,.slice (some ⟨g,o,none⟩) n cap] 26)).alloc (.cells #[.int .i64 p,.int .i64 q] 48)).alloc (.cells #[.int .i64 0,.int .i64 0,.int .i64 0,.int .i64 0,.slice none 0 0] 26)).alloc (.cells #[.int .i64 a,.int .i64 b,.int .i64 c,.int .i64 m,.slice (some ⟨g,o,none⟩) n cap] 26);have b1:((((w.alloc (.cells #[.int .i64 a,.int .i64 b,.int .i64 c,.int .i64 m,.slice (some ⟨g,o,none⟩) n cap] 26)).alloc (.cells #[.int .i64 p,.int .i64 q] 48)).alloc (.cells #[.int .i64 0,.int .i64 0,.int .i64 0,.int .i64 0,.slice none 0 0] 26)).alloc (.cells #[.int .i64 a,.int .i64 b,.int .i64 c,.int .i64 m,.slice (some ⟨g,o,none⟩) n cap] 26)).heap[w.heap.size+1]? =some (.cells #[.int .i64 p,.int .i64 q] 48):=by simp only[Z3,Z2];rw[if_neg (by omega),if_neg (by omega),if_pos trivial]
   have b2:((((w.alloc (.cells #[.int .i64 a,.int .i64 b,.int .i64 c,.int .i64 m,.slice (some ⟨g,o,none⟩) n cap] 26)).alloc (.cells #[.int .i64 p,.int .i64 q] 48)).alloc (.cells #[.int .i64 0,.int .i64 0,.int .i64 0,.int .i64 0,.slice none 0 0] 26)).alloc (.cells #[.int .i64 a,.int .i64 b,.int .i64 c,.int .i64 m,.slice (some ⟨g,o,none⟩) n cap] 26)).heap[w.heap.size+1+1]? =some (.cells #[.int .i64 0,.int .i64 0,.int .i64 0,.int .i64 0,.slice none 0 0] 26):=by simp only[Z3,Z2];rw[if_neg (by omega),if_pos trivial]
   have b3:((((w.alloc (.cells #[.int .i64 a,.int .i64 b,.int .i64 c,.int .i64 m,.slice (some ⟨g,o,none⟩) n cap] 26)).alloc (.cells #[.int .i64 p,.int .i64 q] 48)).alloc (.cells #[.int .i64 0,.int .i64 0,.int .i64 0,.int .i64 0,.slice none 0 0] 26)).alloc (.cells #[.int .i64 a,.int .i64 b,.int .i64 c,.int .i64 m,.slice (some ⟨g,o,none⟩) n cap] 26)).heap[w.heap.size+1+1+1]? =some (.cells #[.int .i64 a,.int .i64 b,.int .i64 c,.int .i64 m,.slice (some ⟨g,o,none⟩) n cap] 26):=by simp only[Z3,Z2];rw[if_pos trivial]
   have Ay:((((w.alloc (.cells #[.int .i64 a,.int .i64 b,.int .i64 c,.int .i64 m,.slice (some ⟨g,o,none⟩) n cap] 26)).alloc (.cells #[.int .i64 p,.int .i64 q] 48)).alloc (.cells #[.int .i64 0,.int .i64 0,.int .i64 0,.int .i64 0,.slice none 0 0] 26)).alloc (.cells #[.int .i64 a,.int .i64 b,.int .i64 c,.int .i64 m,.slice (some ⟨g,o,none⟩) n cap] 26)).heap.size=w.heap.size+1+1+1+1:=by simp only[Z2]
   generalize ((((w.alloc (.cells #[.int .i64 a,.int .i64 b,.int .i64 c,.int .i64 m,.slice (some ⟨g,o,none⟩) n cap] 26)).alloc (.cells #[.int .i64 p,.int .i64 q] 48)).alloc (.cells #[.int .i64 0,.int .i64 0,.int .i64 0,.int .i64 0,.slice none 0 0] 26)).alloc (.cells #[.int .i64 a,.int .i64 b,.int .i64 c,.int .i64 m,.slice (some ⟨g,o,none⟩) n cap] 26))=W0 at hE b1 b2 b3 Ay⊢;rw[<-Ay];have hXe:∀(j:Nat) u,(ZkU L)[j]? =some u->(W0.alloc (.cells #[] 51)).cell? ((⟨g,o,none⟩:Addr).add j)=some u:=fun j u hu=>(hE.alloc _).cellS (hX j u hu)
   refine wpList_append_own _ rfl _ _ _ rfl W0.heap.size 51 Tryz.t51 _ 7 64 u24 i51 t51z t51s t51b rfl (by omega) _ 0 [] rfl (ZkR ((Z3 _ _ _).trans (if_pos rfl)) (Nat.le_refl _)) ⟨g,o,none⟩ n cap (ZkU L) rfl (by rw[hXl,hn]) hXe (Zl3 L) (by simp[maxLen];omega) (by omega) (by simp) ?_;intro v' w3 Ad Ab _;have Az:(W0.alloc (.cells #[] 51)).grownBy w3 (some W0.heap.size):=Ab;have Av:Ext w w3:=(hE.alloc _).grown Az (fun k hk=>by cases hk;exact hE.size);replace Ad:OwnA W0.heap.size w3 v' L:=Zl6 (by simpa using Ad) hn;have Bh:∀b,b<W0.heap.size->w3.heap[b]? =W0.heap[b]? :=fun b hb=>(Az.block b (by rw[Z2];omega) (by intro e;cases e;omega)).trans (((Ext.rfl' W0).alloc _).old b hb)
   have c1:=(Bh _ (by omega)).trans b1;have c2:=(Bh _ (by omega)).trans b2;have c3:=(Bh _ (by omega)).trans b3;obtain⟨g',cp',e',hg',Ef,hR,B8,T9⟩:=Ad.form (by omega) I5;rw[hn] at e' B8;subst e';obtain⟨cur,J8⟩:=Ad.block;rw[Ay] at hg';rw[Ay];clear b1 b2 b3 Bh Ab Az hE Ad hXe hX I5 Ay;have y4:=Z0 c3 4;have f4:=Z8 c3 4;simp only[List.getElem?_toArray,List.getElem?_cons_zero,List.getElem?_cons_succ] at y4;have An:=Av.setCell ⟨w.heap.size+1+1+1,4,none⟩ (.slice (some ⟨g',0,none⟩) n cp') (show w.heap.size<=w.heap.size+1+1+1 by omega);have d3:=Zb (i:=4) c3 (.slice (some ⟨g',0,none⟩) n cp');have d2:=(set_ne (w:=w3) (a:=⟨w.heap.size+1+1+1,4,none⟩) (show w.heap.size+1+1≠w.heap.size+1+1+1 by omega) (.slice (some ⟨g',0,none⟩) n cp')).trans c2;have d1:=(set_ne (w:=w3) (a:=⟨w.heap.size+1+1+1,4,none⟩) (show w.heap.size+1≠w.heap.size+1+1+1 by omega) (.slice (some ⟨g',0,none⟩) n cp')).trans c1;have d0:=(set_ne (w:=w3) (a:=⟨w.heap.size+1+1+1,4,none⟩) (show g'≠w.heap.size+1+1+1 by omega) (.slice (some ⟨g',0,none⟩) n cp')).trans J8;have Uf:RawA (w3.setCell ⟨w.heap.size+1+1+1,4,none⟩ (.slice (some ⟨g',0,none⟩) n cp')) (some ⟨g',0,none⟩) L:=ZkJ hR (set_ne (w:=w3) (a:=⟨w.heap.size+1+1+1,4,none⟩) (show g'≠w.heap.size+1+1+1 by omega) (.slice (some ⟨g',0,none⟩) n cp'))
   simp only[List.setIfInBounds_toArray,List.set_cons_succ,List.set_cons_zero] at d3;obtain⟨z0,z1,z2,z3,z4⟩:=Zgj c2;obtain⟨zf0,zf1,zf2,zf3,zf4⟩:=ZiJ c2;clear c1 c2 c3 J8 hR Av;obtain⟨x1,D8⟩:∃x,L[i]? =some x:=⟨_,List.getElem?_eq_getElem (by omega)⟩;obtain⟨bq,oq,eq,_,sx,_⟩:=Uf i x1 D8;obtain⟨rfl,rfl⟩:g'=bq/\0=oq:=by simpa using eq
   have s1:=sx.k1;have s2:=sx.k2;have s3:=sx.k3;have s4:=sx.k4;have s5:=sx.k5;have s6:=sx.k6;simp only[Nat.zero_add] at s1 s2 s3 s4 s5 s6;have t1:=Z8 d0 (i*7+1);have t2:=Z8 d0 (i*7+1+1);have t3:=Z8 d0 (i*7+3);have t4:=Z8 d0 (i*7+3+1);have t5:=Z8 d0 (i*7+5);have t6:=Z8 d0 (i*7+5+1);obtain⟨e0,e1,e2,e3,e4⟩:=Zgj d3;have yp:=Zc d1;have yp0:=yp.1;have yp1:=yp.2.1;clear eq sx yp))
 ·have Jn:=ZkT (k:=0) (K:=1) d0 Uf (by omega:i<L.length) (by decide) rfl p q;have B4:=(An.setCell ⟨g',i*7+1,none⟩ (.int .i64 p) (show w.heap.size<=g' by omega)).setCell ⟨g',i*7+1+1,none⟩ (.int .i64 q) (show w.heap.size<=g' by omega);have d5:=(set_ne (a:=⟨g',i*7+1+1,none⟩) (show w.heap.size+1+1≠g' by omega) (.int .i64 q)).trans ((set_ne (a:=⟨g',i*7+1,none⟩) (show w.heap.size+1+1≠g' by omega) (.int .i64 p)).trans d2);obtain⟨k0,k1,k2,k3,k4⟩:=Zgj (ZiD d5 (.int .i64 a) (.int .i64 b) (.int .i64 c) (.int .i64 m) (.slice (some ⟨g',0,none⟩) n cp'));have Jo:=ZkJ Jn (ZiG _ (show g'≠w.heap.size+1+1 by omega) (.int .i64 a) (.int .i64 b) (.int .i64 c) (.int .i64 m) (.slice (some ⟨g',0,none⟩) n cp'));have Bv:=ZiE B4 (show w.heap.size<=w.heap.size+1+1 by omega) (.int .i64 a) (.int .i64 b) (.int .i64 c) (.int .i64 m) (.slice (some ⟨g',0,none⟩) n cp');simp only[ZjW] at k0 k1 k2 k3 k4;refine bodyPost_ret (v:= .agg #[.int .i64 a,.int .i64 b,.int .i64 c,.int .i64 m,.slice (some ⟨g',0,none⟩) n cp']) ((Z07 rfl _ _ _).trans ?_) rfl ⟨g',cp',rfl,B8,by omega,Jo,Bv⟩;simp[go_sem,k0,k1,k2,k3,k4]
 ·have Jn:=ZkT (k:=1) (K:=3) d0 Uf (by omega:i<L.length) (by decide) rfl p q;have B4:=(An.setCell ⟨g',i*7+3,none⟩ (.int .i64 p) (show w.heap.size<=g' by omega)).setCell ⟨g',i*7+3+1,none⟩ (.int .i64 q) (show w.heap.size<=g' by omega);have d5:=(set_ne (a:=⟨g',i*7+3+1,none⟩) (show w.heap.size+1+1≠g' by omega) (.int .i64 q)).trans ((set_ne (a:=⟨g',i*7+3,none⟩) (show w.heap.size+1+1≠g' by omega) (.int .i64 p)).trans d2);obtain⟨k0,k1,k2,k3,k4⟩:=Zgj (ZiD d5 (.int .i64 a) (.int .i64 b) (.int .i64 c) (.int .i64 m) (.slice (some ⟨g',0,none⟩) n cp'));have Jo:=ZkJ Jn (ZiG _ (show g'≠w.heap.size+1+1 by omega) (.int .i64 a) (.int .i64 b) (.int .i64 c) (.int .i64 m) (.slice (some ⟨g',0,none⟩) n cp'));have Bv:=ZiE B4 (show w.heap.size<=w.heap.size+1+1 by omega) (.int .i64 a) (.int .i64 b) (.int .i64 c) (.int .i64 m) (.slice (some ⟨g',0,none⟩) n cp');simp only[ZjW] at k0 k1 k2 k3 k4;refine bodyPost_ret (v:= .agg #[.int .i64 a,.int .i64 b,.int .i64 c,.int .i64 m,.slice (some ⟨g',0,none⟩) n cp']) ((Z07 rfl _ _ _).trans ?_) rfl ⟨g',cp',rfl,B8,by omega,Jo,Bv⟩;simp[go_sem,k0,k1,k2,k3,k4]
 ·have Jn:=ZkT (k:=2) (K:=5) d0 Uf (by omega:i<L.length) (by decide) rfl p q;have B4:=(An.setCell ⟨g',i*7+5,none⟩ (.int .i64 p) (show w.heap.size<=g' by omega)).setCell ⟨g',i*7+5+1,none⟩ (.int .i64 q) (show w.heap.size<=g' by omega);have d5:=(set_ne (a:=⟨g',i*7+5+1,none⟩) (show w.heap.size+1+1≠g' by omega) (.int .i64 q)).trans ((set_ne (a:=⟨g',i*7+5,none⟩) (show w.heap.size+1+1≠g' by omega) (.int .i64 p)).trans d2);obtain⟨k0,k1,k2,k3,k4⟩:=Zgj (ZiD d5 (.int .i64 a) (.int .i64 b) (.int .i64 c) (.int .i64 m) (.slice (some ⟨g',0,none⟩) n cp'));have Jo:=ZkJ Jn (ZiG _ (show g'≠w.heap.size+1+1 by omega) (.int .i64 a) (.int .i64 b) (.int .i64 c) (.int .i64 m) (.slice (some ⟨g',0,none⟩) n cp'));have Bv:=ZiE B4 (show w.heap.size<=w.heap.size+1+1 by omega) (.int .i64 a) (.int .i64 b) (.int .i64 c) (.int .i64 m) (.slice (some ⟨g',0,none⟩) n cp');simp only[ZjW] at k0 k1 k2 k3 k4;refine bodyPost_ret (v:= .agg #[.int .i64 a,.int .i64 b,.int .i64 c,.int .i64 m,.slice (some ⟨g',0,none⟩) n cp']) ((Z07 rfl _ _ _).trans ?_) rfl ⟨g',cp',rfl,B8,by omega,Jo,Bv⟩;simp[go_sem,k0,k1,k2,k3,k4]
end Go.Proofs.Tryq
namespace Go.Proofs.Tryq
open Go Go.Nk Go.RowKit
set_option linter.all false
set_option linter.all false
set_option linter.all false
set_option linter.all false
set_option linter.all false
set_option linter.all false
set_option linter.all false
end Go.Proofs.Tryq
namespace Go.Proofs.Tryq
set_option maxRecDepth 100000
set_option maxHeartbeats 4000000
open Go Go.Nk Go.RowKit
set_option linter.all false
theorem ZhG{a b c m:Int}{L:List Sf}(k:Int):Zo a b c m L [k]=if Zp a b c m L=0 then(if 0<=k/\k<=(L.length:Int) - 1 then 0 else 6) else Zp a b c m L:=by
 rw[Zo,firstV];split
 ·simp only[firstV,Zq,Z1k];by_cases h:0<=k/\k<=(L.length:Int) - 1
  ·rw[if_pos h];simp[h]
  ·rw[if_neg h];simp[h]
 ·rfl
theorem Zhg(a b c m:Int)(base:Option Addr)(n cap:Nat)(L:List Sf)(k:Int)(w:World)(A2:L.length=n)(hn:n<=20)(hS:RawA w base L):
 Calls prog 118 #[.agg #[.int .i64 a,.int .i64 b,.int .i64 c,.int .i64 m,.slice base n cap],.int .i64 k] w fun e w'=>e= .returned (.int .i64 (Zo a b c m L [k]))/\Ext w w':=by
 have hc:=fun W hW=>Z1P a b c m base n cap L W A2 (by omega) (hS.ext hW)
 rw[ZhG,A2];have Aq:=fun W=>Z4r k 0 ((n:Int) - 1) W
 by_cases h0:Zp a b c m L=0
 ·rw[if_pos h0];simp only[h0] at hc;by_cases hk:0<=k/\k<=(n:Int) - 1
  ·rw[if_pos hk];rw[decide_eq_true hk] at Aq;clear hk;go_enter func118,ntmps118
   go_wp2_with (first
    |(go_at_call 26;refine(hc _ ((Ext.rfl' w).alloc _)).mono ?_;rintro e w2 ⟨rfl,A7⟩
      have g:=A7.get ((Z3 _ _ _).trans (if_pos rfl));have q4:=Z0 g 4;have Av:=((Ext.rfl' w).alloc _).trans A7;simp only[List.getElem?_toArray,List.getElem?_cons_zero,List.getElem?_cons_succ] at q4)
    |(go_at_call 93;refine(Aq _).mono ?_;rintro e w3 ⟨rfl,rfl⟩))
   go_ret;exact⟨rfl,Av⟩
  ·rw[if_neg hk];rw[decide_eq_false hk] at Aq;clear hk;go_enter func118,ntmps118
   go_wp2_with (first
    |(go_at_call 26;refine(hc _ ((Ext.rfl' w).alloc _)).mono ?_;rintro e w2 ⟨rfl,A7⟩
      have g:=A7.get ((Z3 _ _ _).trans (if_pos rfl));have q4:=Z0 g 4;have Av:=((Ext.rfl' w).alloc _).trans A7;simp only[List.getElem?_toArray,List.getElem?_cons_zero,List.getElem?_cons_succ] at q4)
    |(go_at_call 93;refine(Aq _).mono ?_;rintro e w3 ⟨rfl,rfl⟩))
   go_ret;exact⟨rfl,Av⟩
 ·rw[if_neg h0];have A8:(Zp a b c m L !=0)=true:=by simpa using h0
  generalize Zp a b c m L=f at hc A8⊢;go_enter func118,ntmps118
  go_wp2_with (first
   |(go_at_call 26;refine(hc _ ((Ext.rfl' w).alloc _)).mono ?_;rintro e w2 ⟨rfl,A7⟩))
  go_ret;exact⟨rfl,((Ext.rfl' w).alloc _).trans A7⟩
end Go.Proofs.Tryq
namespace Go.Proofs.Tryq
set_option maxRecDepth 100000
set_option maxHeartbeats 8000000
open Go Go.Nk Go.RowKit
set_option linter.all false
theorem Zlg(w:World)(A B C:Obj):Ext w (((w.alloc A).alloc B).alloc C)/\(((w.alloc A).alloc B).alloc C).heap[w.heap.size]? =some A/\(((w.alloc A).alloc B).alloc C).heap[w.heap.size+1]? =some B/\(((w.alloc A).alloc B).alloc C).heap[w.heap.size+1+1]? =some C:=by
 refine⟨(((Ext.rfl' w).alloc A).alloc B).alloc C,?_,?_,?_⟩
 ·simp only[Z3,Z2];rw[if_neg (by omega),if_neg (by omega),if_pos trivial]
 ·simp only[Z3,Z2];rw[if_neg (by omega),if_pos trivial]
 ·simp only[Z3,Z2];rw[if_pos trivial]
theorem ZkV(a b c m p q:Int)(base:Option Addr)(n cap:Nat)(L:List Sf)(w:World)(A2:L.length=n)(hn:n<=20)(hS:RawA w base L)(i k:Int)(h:Zo a b c m L [i]≠0):
 Calls prog 74 #[.agg #[.int .i64 a,.int .i64 b,.int .i64 c,.int .i64 m,.slice base n cap],.int .i64 i,.int .i64 k,.agg #[.int .i64 p,.int .i64 q]] w fun e w'=>e= .returned (.tuple #[.agg #[.int .i64 0,.int .i64 0,.int .i64 0,.int .i64 0,.slice none 0 0],.int .i64 (Zo a b c m L [i])])/\Ext w w':=by
 have hA:=fun W (hW:Ext w W)=>Zhg a b c m base n cap L i W A2 hn (hS.ext hW)
 have A8:(Zo a b c m L [i] !=0)=true:=by simpa using h
 generalize Zo a b c m L [i]=f at hA A8⊢;clear h hS;obtain⟨B0,D3,Bj,E1⟩:=Zlg w (.cells #[.int .i64 a,.int .i64 b,.int .i64 c,.int .i64 m,.slice base n cap] 26) (.cells #[.int .i64 p,.int .i64 q] 48) (.cells #[.int .i64 0,.int .i64 0,.int .i64 0,.int .i64 0,.slice none 0 0] 26);go_enter func74,ntmps74
 go_wp2_with (first
  |(go_at_call 118;refine(hA _ B0).mono ?_;rintro e w2 ⟨rfl,hF⟩
    have hE:=B0.trans hF;have hr:=hF.get D3;have hp:=hF.get Bj;have hz:=hF.get E1;clear hF;obtain⟨q0,q1,q2,q3,q4⟩:=Zgj hr;have y:=Zc hp;have y0:=y.1;have y1:=y.2.1;obtain⟨z0,z1,z2,z3,z4⟩:=Zgj hz;obtain⟨f0,f1,f2,f3,f4⟩:=ZiJ hz))
 obtain⟨k0,k1,k2,k3,k4⟩:=Zgj (ZiD hz (.int .i64 0) (.int .i64 0) (.int .i64 0) (.int .i64 0) (.slice none 0 0));simp only[ZjW] at k0 k1 k2 k3 k4;refine bodyPost_ret (v:= .tuple #[.agg #[.int .i64 0,.int .i64 0,.int .i64 0,.int .i64 0,.slice none 0 0],.int .i64 f]) ((Z01 rfl _ _ _).trans ?_) rfl ⟨rfl,ZiE hE (show w.heap.size<=w.heap.size+1+1 by omega) _ _ _ _ _⟩;simp[go_sem,k0,k1,k2,k3,k4]
theorem ZkW(a b c m p q:Int)(base:Option Addr)(n cap:Nat)(L:List Sf)(w:World)(A2:L.length=n)(hn:n<=20)(hS:RawA w base L)(i k:Int)(h:Zo a b c m L [i]=0)(hk:¬(0<=k/\k<=2)):
 Calls prog 74 #[.agg #[.int .i64 a,.int .i64 b,.int .i64 c,.int .i64 m,.slice base n cap],.int .i64 i,.int .i64 k,.agg #[.int .i64 p,.int .i64 q]] w fun e w'=>e= .returned (.tuple #[.agg #[.int .i64 0,.int .i64 0,.int .i64 0,.int .i64 0,.slice none 0 0],.int .i64 1])/\Ext w w':=by
 have hA:=fun W (hW:Ext w W)=>Zhg a b c m base n cap L i W A2 hn (hS.ext hW)
 simp only[h] at hA;clear h hS;obtain⟨B0,D3,Bj,E1⟩:=Zlg w (.cells #[.int .i64 a,.int .i64 b,.int .i64 c,.int .i64 m,.slice base n cap] 26) (.cells #[.int .i64 p,.int .i64 q] 48) (.cells #[.int .i64 0,.int .i64 0,.int .i64 0,.int .i64 0,.slice none 0 0] 26);by_cases h0:k<0
 ·go_enter func74,ntmps74
  go_wp2_with (first
   |(go_at_call 118;refine(hA _ B0).mono ?_;rintro e w2 ⟨rfl,hF⟩
     have hE:=B0.trans hF;have hr:=hF.get D3;have hp:=hF.get Bj;have hz:=hF.get E1;clear hF;obtain⟨q0,q1,q2,q3,q4⟩:=Zgj hr;have y:=Zc hp;have y0:=y.1;have y1:=y.2.1;obtain⟨z0,z1,z2,z3,z4⟩:=Zgj hz;obtain⟨f0,f1,f2,f3,f4⟩:=ZiJ hz))
  obtain⟨k0,k1,k2,k3,k4⟩:=Zgj (ZiD hz (.int .i64 0) (.int .i64 0) (.int .i64 0) (.int .i64 0) (.slice none 0 0));simp only[ZjW] at k0 k1 k2 k3 k4;refine bodyPost_ret (v:= .tuple #[.agg #[.int .i64 0,.int .i64 0,.int .i64 0,.int .i64 0,.slice none 0 0],.int .i64 1]) ((Z01 rfl _ _ _).trans ?_) rfl ⟨rfl,ZiE hE (show w.heap.size<=w.heap.size+1+1 by omega) _ _ _ _ _⟩;simp[go_sem,k0,k1,k2,k3,k4]
 ·have h2:2<k:=by omega
  go_enter func74,ntmps74
  go_wp2_with (first
   |(go_at_call 118;refine(hA _ B0).mono ?_;rintro e w2 ⟨rfl,hF⟩
     have hE:=B0.trans hF;have hr:=hF.get D3;have hp:=hF.get Bj;have hz:=hF.get E1;clear hF;obtain⟨q0,q1,q2,q3,q4⟩:=Zgj hr;have y:=Zc hp;have y0:=y.1;have y1:=y.2.1;obtain⟨z0,z1,z2,z3,z4⟩:=Zgj hz;obtain⟨f0,f1,f2,f3,f4⟩:=ZiJ hz))
  obtain⟨k0,k1,k2,k3,k4⟩:=Zgj (ZiD hz (.int .i64 0) (.int .i64 0) (.int .i64 0) (.int .i64 0) (.slice none 0 0));simp only[ZjW] at k0 k1 k2 k3 k4;refine bodyPost_ret (v:= .tuple #[.agg #[.int .i64 0,.int .i64 0,.int .i64 0,.int .i64 0,.slice none 0 0],.int .i64 1]) ((Z01 rfl _ _ _).trans ?_) rfl ⟨rfl,ZiE hE (show w.heap.size<=w.heap.size+1+1 by omega) _ _ _ _ _⟩;simp[go_sem,k0,k1,k2,k3,k4]
theorem ZkX(a b c m p q:Int)(base:Option Addr)(n cap:Nat)(L:List Sf)(w:World)(A2:L.length=n)(hn:n<=20)(hS:RawA w base L)(i k:Int)(h:Zo a b c m L [i]=0)(hk:0<=k/\k<=2)(Du:¬(0<=p/\p<=q/\q<=9999)):
 Calls prog 74 #[.agg #[.int .i64 a,.int .i64 b,.int .i64 c,.int .i64 m,.slice base n cap],.int .i64 i,.int .i64 k,.agg #[.int .i64 p,.int .i64 q]] w fun e w'=>e= .returned (.tuple #[.agg #[.int .i64 0,.int .i64 0,.int .i64 0,.int .i64 0,.slice none 0 0],.int .i64 1])/\Ext w w':=by
 have hA:=fun W (hW:Ext w W)=>Zhg a b c m base n cap L i W A2 hn (hS.ext hW)
 have hI:=fun W=>Z2e p q 0 9999 W
 rw[decide_eq_false Du] at hI;simp only[h] at hA;clear h hS Du;obtain⟨B0,D3,Bj,E1⟩:=Zlg w (.cells #[.int .i64 a,.int .i64 b,.int .i64 c,.int .i64 m,.slice base n cap] 26) (.cells #[.int .i64 p,.int .i64 q] 48) (.cells #[.int .i64 0,.int .i64 0,.int .i64 0,.int .i64 0,.slice none 0 0] 26);have h0:¬k<0:=by omega
 have h2:¬2<k:=by omega
 go_enter func74,ntmps74
 go_wp2_with (first
  |(go_at_call 118;refine(hA _ B0).mono ?_;rintro e w2 ⟨rfl,hF⟩
    have hE:=B0.trans hF;have hr:=hF.get D3;have hp:=hF.get Bj;have hz:=hF.get E1;clear hF;obtain⟨q0,q1,q2,q3,q4⟩:=Zgj hr;have y:=Zc hp;have y0:=y.1;have y1:=y.2.1;obtain⟨z0,z1,z2,z3,z4⟩:=Zgj hz;obtain⟨f0,f1,f2,f3,f4⟩:=ZiJ hz)
  |(go_at_call 95;refine(hI _).mono ?_;rintro e w3 ⟨rfl,hF⟩
    replace hE:=hE.trans hF;replace hr:=hF.get hr;replace hp:=hF.get hp;replace hz:=hF.get hz;clear hF y y0 y1 q0 q1 q2 q3 q4 z0 z1 z2 z3 z4 f0 f1 f2 f3 f4;obtain⟨q0,q1,q2,q3,q4⟩:=Zgj hr;have y:=Zc hp;have y0:=y.1;have y1:=y.2.1;obtain⟨z0,z1,z2,z3,z4⟩:=Zgj hz;obtain⟨f0,f1,f2,f3,f4⟩:=ZiJ hz))
 obtain⟨k0,k1,k2,k3,k4⟩:=Zgj (ZiD hz (.int .i64 0) (.int .i64 0) (.int .i64 0) (.int .i64 0) (.slice none 0 0));simp only[ZjW] at k0 k1 k2 k3 k4;refine bodyPost_ret (v:= .tuple #[.agg #[.int .i64 0,.int .i64 0,.int .i64 0,.int .i64 0,.slice none 0 0],.int .i64 1]) ((Z01 rfl _ _ _).trans ?_) rfl ⟨rfl,ZiE hE (show w.heap.size<=w.heap.size+1+1 by omega) _ _ _ _ _⟩;simp[go_sem,k0,k1,k2,k3,k4]
theorem ZkY(a b c m p q P1 P2 U V:Int)(bs off n cap:Nat)(L:List Sf)(x:Sf)(i k:Nat)(w:World)(A2:L.length=n)(hn:n<=20)(hS:RawA w (some ⟨bs,off,none⟩) L)(h:Zo a b c m L [(i:Int)]=0)(hi:i<n)(hk:k<3)(Du:0<=p/\p<=q/\q<=9999)(hx:L[i]? =some x)(Kt:(spA x k).1=P1)(Gh:(spA x k).2=P2)(hU:max P1 p=U)(hV:min P2 q=V):
 Calls prog 74 #[.agg #[.int .i64 a,.int .i64 b,.int .i64 c,.int .i64 m,.slice (some ⟨bs,off,none⟩) n cap],.int .i64 i,.int .i64 k,.agg #[.int .i64 p,.int .i64 q]] w fun e w'=>(V<U->e= .returned (.tuple #[.agg #[.int .i64 0,.int .i64 0,.int .i64 0,.int .i64 0,.slice none 0 0],.int .i64 10]))/\(U<=V->∃g' cap',e= .returned (.tuple #[.agg #[.int .i64 a,.int .i64 b,.int .i64 c,.int .i64 m,.slice (some ⟨g',0,none⟩) n cap'],.int .i64 0])/\n<=cap'/\w.heap.size<=g'/\RawA w' (some ⟨g',0,none⟩) (Zla L i k (U,V)))/\Ext w w':=by
 have E4:=fun W (hW:Ext w W)=>Zhg a b c m (some ⟨bs,off,none⟩) n cap L i W A2 hn (hS.ext hW)
 have hI:=fun W=>Z2e p q 0 9999 W
 have T9:=fun w=>Z31 x k hk w
 have Ta:=fun W=>Zg5 P1 P2 p q W
 have Yb:=fun W (hW:Ext w W)=>Zlf a b c m U V (some ⟨bs,off,none⟩) n cap i k L W A2 (by omega) hi hk (hS.ext hW)
 rw[decide_eq_true Du] at hI;simp only[h] at E4;rw[Kt,Gh] at T9;rw[hU,hV] at Ta;simp only[sfC] at T9;obtain⟨b2,o2,e2,Dn,sx,_⟩:=hS i x hx;obtain⟨rfl,rfl⟩:bs=b2/\off=o2:=by simpa using e2
 clear h hS Du hx Kt Gh hU hV e2;obtain⟨B0,D3,Bj,E1⟩:=Zlg w (.cells #[.int .i64 a,.int .i64 b,.int .i64 c,.int .i64 m,.slice (some ⟨bs,off,none⟩) n cap] 26) (.cells #[.int .i64 p,.int .i64 q] 48) (.cells #[.int .i64 0,.int .i64 0,.int .i64 0,.int .i64 0,.slice none 0 0] 26);have h0:¬(k:Int)<0:=by omega
 have h2:¬(2:Int)<(k:Int):=by omega
 have Dy:(i:Int)<(n:Int):=by omega
 go_enter func74,ntmps74
 go_wp2_with (first
  |(go_at_call 118;refine(E4 _ B0).mono ?_;rintro e w2 ⟨rfl,hF⟩
    have hE:=B0.trans hF;have hr:=hF.get D3;have hp:=hF.get Bj;have hz:=hF.get E1;clear hF;obtain⟨q0,q1,q2,q3,q4⟩:=Zgj hr;have y:=Zc hp;have y0:=y.1;have y1:=y.2.1;obtain⟨z0,z1,z2,z3,z4⟩:=Zgj hz;obtain⟨f0,f1,f2,f3,f4⟩:=ZiJ hz)
  |(go_at_call 95;refine(hI _).mono ?_;rintro e w3 ⟨rfl,hF⟩
    replace hE:=hE.trans hF;replace hr:=hF.get hr;replace hp:=hF.get hp;replace hz:=hF.get hz;clear hF y y0 y1 q0 q1 q2 q3 q4 z0 z1 z2 z3 z4 f0 f1 f2 f3 f4;obtain⟨q0,q1,q2,q3,q4⟩:=Zgj hr;have y:=Zc hp;have y0:=y.1;have y1:=y.2.1;obtain⟨z0,z1,z2,z3,z4⟩:=Zgj hz;obtain⟨f0,f1,f2,f3,f4⟩:=ZiJ hz))
 have x0:=hE.cellS sx.1;have x1:=hE.cellS sx.2;have x2:=hE.cellS sx.3;have x3:=hE.cellS sx.4;have x4:=hE.cellS sx.5;have x5:=hE.cellS sx.6;have x6:=hE.cellS sx.7;have zq4:=Zet q4;have zy0:=Zet y0;have zy1:=Zet y1;have zx0:=Zet x0;have zx1:=Zet x1;have zx2:=Zet x2;have zx3:=Zet x3;have zx4:=Zet x4;have zx5:=Zet x5;have zx6:=Zet x6;refine Zfn 10 9 11 [0,1,2,3,4,5,6,7,8] (.cells #[.int .i64 0,.int .i64 0] 48) (by kernel_rfl) rfl (by kernel_rfl) rfl rfl (fun a W=>by simp[go_sem,execOp,Act.eval]) ?_;refine Zfj [0,1,2,3,4,5,7] (by kernel_rfl) rfl rfl (by kernel_rfl) ?_;simp only[ZeD,List.getElem?_cons_succ,List.getElem?_cons_zero,List.cons_append,List.nil_append]
 repeat (go_big_quiet_step (fail))
 refine wpQuiet_nil ?_;refine Zfr 6 (f:=33) (args:= #[.agg #[.string x.nm,.int .i64 x.a0,.int .i64 x.a1,.int .i64 x.b0,.int .i64 x.b1,.int .i64 x.c0,.int .i64 x.c1],.int .i64 k]) (v:= .agg #[.int .i64 P1,.int .i64 P2]) (by kernel_rfl) rfl rfl rfl (by kernel_rfl) rfl (fun W=>by simp[go_sem,execOp,Act.eval]) (fun W _=>T9 W) ?_;go_simp;refine Zfr 8 (f:=46) (args:= #[.agg #[.int .i64 P1,.int .i64 P2],.agg #[.int .i64 p,.int .i64 q]]) (v:= .agg #[.int .i64 U,.int .i64 V]) (by kernel_rfl) rfl rfl rfl (by kernel_rfl) rfl (fun W=>by simp[go_sem,execOp,Act.eval]) (fun W _=>Ta W) ?_;go_simp;refine Zfq (by kernel_rfl) (fun W hW b hA Bg Ae=> ?_);obtain⟨bx,rfl⟩:∃bx,bx=b:=⟨_,rfl⟩;have An:=hW;clear hW;go_simp;refine Zfp 1 (by kernel_rfl) (fun W hW=> ?_);simp only[List.drop_succ_cons,List.drop_zero];replace Ae:=hW.get Ae;have hX:=An.trans hW;have B7:=hE.trans hX;have Cj:w.heap.size<=bx:=by have h1:=hA;have h2:=hE.size;omega
 have Qy:=Z5 hr;have Hw:=Z5 hz;have K1:∀b,b≠bx->((W.setCell ⟨bx,0,none⟩ (.int .i64 U)).setCell ⟨bx,1,none⟩ (.int .i64 V)).heap[b]? =W.heap[b]? :=fun b hb=>(set_ne (a:=⟨bx,1,none⟩) hb (.int .i64 V)).trans (set_ne (a:=⟨bx,0,none⟩) hb (.int .i64 U))
 have hC:=(K1 w.heap.size (by omega)).trans (hX.get hr);have hZ:=(K1 (w.heap.size+1+1) (by omega)).trans (hX.get hz);have hP:=set_pair Ae (.int .i64 U) (.int .i64 V);have O5:=(B7.setCell ⟨bx,0,none⟩ (.int .i64 U) Cj).setCell ⟨bx,1,none⟩ (.int .i64 V) Cj;have g:=Zc Ae;have g0:=g.1;have g1:=g.2.1;have g2:=g.2.2.1;have g3:=g.2.2.2;clear g K1 B7 hE An hW hX hA Bg hr hz hp y y0 y1 q0 q1 q2 q3 q4 z0 z1 z2 z3 z4 f0 f1 f2 f3 f4 zq4 zy0 zy1 zx0 zx1 zx2 zx3 zx4 zx5 zx6 x0 x1 x2 x3 x4 x5 x6 sx;go_wp2_with fail;generalize (W.setCell ⟨bx,0,none⟩ (.int .i64 U)).setCell ⟨bx,1,none⟩ (.int .i64 V)=Y at hC hZ hP O5⊢;clear g0 g1 g2 g3 Ae;refine Zfm ?_;have y:=Zc hP;have y0:=y.1;have y1:=y.2.1;clear y;obtain⟨z0,z1,z2,z3,z4⟩:=Zgj hZ;obtain⟨f0,f1,f2,f3,f4⟩:=ZiJ hZ;by_cases Ph:V<U
 ·have hz:=hZ;go_wp2_with fail;obtain⟨k0,k1,k2,k3,k4⟩:=Zgj (ZiD hz (.int .i64 0) (.int .i64 0) (.int .i64 0) (.int .i64 0) (.slice none 0 0));simp only[ZjW] at k0 k1 k2 k3 k4;refine bodyPost_ret (v:= .tuple #[.agg #[.int .i64 0,.int .i64 0,.int .i64 0,.int .i64 0,.slice none 0 0],.int .i64 10]) ((Z01 rfl _ _ _).trans ?_) rfl ⟨fun _=>rfl,fun h=>absurd Ph (by omega),ZiE O5 (show w.heap.size<=w.heap.size+1+1 by omega) _ _ _ _ _⟩;simp[go_sem,k0,k1,k2,k3,k4]
 ·obtain⟨q0,q1,q2,q3,q4⟩:=Zgj hC
  go_wp2_with (
   go_at_call 35;refine(Yb _ O5).mono ?_;rintro e w5 ⟨g',cp',rfl,In,hg',hR,hF⟩
   have hY:=O5.size;have hlz:=Z5 hZ;replace O5:=O5.trans hF;replace hZ:=hF.get hZ;clear hF y0 y1 q0 q1 q2 q3 q4 z0 z1 z2 z3 z4 f0 f1 f2 f3 f4 hC hP;obtain⟨z0,z1,z2,z3,z4⟩:=Zgj hZ;obtain⟨f0,f1,f2,f3,f4⟩:=ZiJ hZ)
  obtain⟨k0,k1,k2,k3,k4⟩:=Zgj (ZiD hZ (.int .i64 a) (.int .i64 b) (.int .i64 c) (.int .i64 m) (.slice (some ⟨g',0,none⟩) n cp'));have Jo:=ZkJ hR (ZiG _ (show g'≠w.heap.size+1+1 by omega) (.int .i64 a) (.int .i64 b) (.int .i64 c) (.int .i64 m) (.slice (some ⟨g',0,none⟩) n cp'));simp only[ZjW] at k0 k1 k2 k3 k4;refine bodyPost_ret (v:= .tuple #[.agg #[.int .i64 a,.int .i64 b,.int .i64 c,.int .i64 m,.slice (some ⟨g',0,none⟩) n cp'],.int .i64 0]) ((Z01 rfl _ _ _).trans ?_) rfl ⟨fun h=>absurd h (by omega),fun _=>⟨g',cp',rfl,In,by omega,Jo⟩,ZiE O5 (show w.heap.size<=w.heap.size+1+1 by omega) _ _ _ _ _⟩;simp[go_sem,k0,k1,k2,k3,k4]
end Go.Proofs.Tryq
