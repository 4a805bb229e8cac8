import Derived.Test.YthahddndgbpooaaGreatDoorNkA
import Derived.Test.YthahddndgbpooaaGreatDoorNk25
import Derived.Lib.Hide
set_option linter.all false
set_option maxRecDepth 100000
set_option maxHeartbeats 4000000
open Go Go.Nk Go.RowKit
variable {s:ByteArray}{a b c e h p x y:Int}{l:List Int}{n:Nat}
namespace Go.Proofs.Tryq
section
variable [Tw]
theorem ZdG{x y:Sf}(h:nmL x=nmL y):x.nm=y.nm:=by
 have h2:x.nm.data=y.nm.data:=Array.toList_inj.1 h;cases hx:x.nm;cases hy:y.nm;rw[hx,hy] at h2;simp at h2;rw[h2]
theorem Z71{t:ByteArray}(h:s.toList=t.toList):s=t:=by
 rw[ByteArray.toList_eq,ByteArray.toList_eq] at h;cases s;cases t;simp at h;rw[h]
theorem Z1P(a b c m:Int)(base:Option Addr)(n cap:Nat)(L:List Sf)(w:World)(A1:L.length=n)(Tq:n<=1000000)(hS:RawA w base L):
 Calls gp 17 #[.agg #[a,b,c,m,.slice base n cap]] w λe w'=>e= .returned (.int .i64 (Zp a b c m L))/\Ext w w':=by
 have hr:∀n hi w,Calls gp 52 #[.int .i64 n,.int .i64 0,.int .i64 hi] w λe w'=>e= .returned (.bool (okA n hi))/\w'=w:=λn hi w=>Z4r n 0 hi w
 have Bj:=λw=>hr a 9999 w;have Bh:=λw=>hr b 9999 w;have C9:=λw=>hr c 9999 w;have I8:=λw=>Z4r m 2 4 w
 clear hr;by_cases hR:Z2J a b c m=0
 ·have Io:okA a 9999=true/\okA b 9999=true/\okA c 9999=true/\decide (2<=m/\m<=4)=true:=by
   unfold Z2J at hR;split at hR
   ·rename_i h;simp only[YG] at h;exact⟨h.1.1.1,h.1.1.2,h.1.2,h.2⟩
   ·cases hR
  simp only[Io.1] at Bj;simp only[Io.2.1] at Bh;simp only[Io.2.2.1] at C9;simp only[Io.2.2.2] at I8;have hF:Hid (Zp a b c m L=Zj L):=by
   show _=_;rw[Zp,firstV,YZ hR];simp only[firstV];split
   ·rename_i h;exact h.symm
   ·rfl
  clear hR Io;by_cases h9:9<L.length
  ·have H:Hid (Zp a b c m L=2):=by show _=_;rw[hF.out,Zj,YZ h9]
   have Nz:(9:Int)<(n:Int):=by omega
   clear h9 hF;go_enter fk Tryz.func17,Tryz.ntmps17
   go_wp2_with (first
    |(go_at_call 52;(with_reducible refine(Bj _).mono ?_);rintro e w2 ⟨rfl,rfl⟩)
    |(go_at_call 52;(with_reducible refine(Bh _).mono ?_);rintro e w2 ⟨rfl,rfl⟩)
    |(go_at_call 52;(with_reducible refine(C9 _).mono ?_);rintro e w2 ⟨rfl,rfl⟩)
    |(go_at_call 52;(with_reducible refine(I8 _).mono ?_);rintro e w2 ⟨rfl,rfl⟩))
   go_ret;exact⟨ZK (a:=2) H.out.symm,((Ext.rfl' w).alloc _).alloc _⟩
  ·have H:Hid (Zp a b c m L=shA ((L.take 0).map nmL) (L.drop 0)):=by show _=_;rw[hF.out,Zj,XA h9];rfl
   have Nz:(n:Int)<=9:=by omega
   clear h9 hF;go_enter fk Tryz.func17,Tryz.ntmps17
   go_wp2_with (first
    |(go_at_call 52;(with_reducible refine(Bj _).mono ?_);rintro e w2 ⟨rfl,rfl⟩)
    |(go_at_call 52;(with_reducible refine(Bh _).mono ?_);rintro e w2 ⟨rfl,rfl⟩)
    |(go_at_call 52;(with_reducible refine(C9 _).mono ?_);rintro e w2 ⟨rfl,rfl⟩)
    |(go_at_call 52;(with_reducible refine(I8 _).mono ?_);rintro e w2 ⟨rfl,rfl⟩))
   clear Bj Bh C9 I8;have Be:=((Ext.rfl' w).alloc (.cells #[a,b,c,m,.slice base n cap] 26)).alloc (.cells #[a,b,c,m] 23);go_loopw [4] (λv wr=>∃i:Nat,i<=n/\v= .int .i64 i/\wr.heap[w.heap.size]? =some (.cells #[a,b,c,m,.slice base n cap] 26)/\Ext w wr/\Hid (Zp a b c m L=shA ((L.take i).map nmL) (L.drop i))) (λv _=>n - (intOf v).toNat)
   case atStart=>exact⟨0,XS _,rfl,by simp only[Z3,Z2];rw[XA (by omega),YZ trivial],Be,H⟩
   case round=>
    obtain⟨i,hi,rfl,hr,hE,hH⟩:=hrel;clear Be H;have q4:=Z0 hr 4;simp only[YC,YA,YB] at q4;have hlr:=Z5 hr;by_cases Ao:i=n
    ·subst Ao;have hz:Hid (Zp a b c m L=0):=(by show _=_;rw[hH.out,<-A1,TB];rfl);clear hH;go_wp2;go_ret;exact⟨ZK (a:=0) hz.out.symm,hE⟩
    ·have A3:i<n:=(by omega);obtain⟨x,hx⟩:∃x,L[i]? =some x:=⟨_,YH (by omega)⟩;have Ai:Hid (Zp a b c m L=if Z2d x.nm=false then 4 else if nmL x∈(L.take i).map nmL then 5 else if Z8b x=false then 1 else shA ((L.take (i+1)).map nmL) (L.drop (i+1))):=by
      show _=_;rw[hH.out,Z0b hx,shA,Z0G hx,QT];rfl
     have Ey:=hS.ext hE;obtain⟨b',off,rfl,hb,⟨k0,k1,k2,k3,k4,k5,k6⟩,Me⟩:=Ey i x hx;have Ft:=λw=>Z70 x.nm w Me
     have Cj:(0:Int)<=(i:Int):=(by omega);cases hnb:Z2d x.nm
     ·have Av:Hid (Zp a b c m L=4):=(by show _=_;rw[Ai.out,YZ hnb]);rw[hnb] at Ft;clear hnb Ai hH hx
      go_wp2_with (first
       |(go_at_call 53;refine(Ft _).mono ?_;rintro e w2 ⟨rfl,rfl⟩))
      go_ret;exact⟨ZK (a:=4) Av.out.symm,hE.alloc _⟩
     ·rw[hnb] at Ft;have Gf:Hid (Zp a b c m L=if nmL x∈(L.take i).map nmL then 5 else if Z8b x=false then 1 else shA ((L.take (i+1)).map nmL) (L.drop (i+1))):=(by show _=_;rw[Ai.out,XA (by rw[hnb];simp)]);clear Ai hH hnb
      go_wp2_with (first
       |(go_at_call 53;refine(Ft _).mono ?_;rintro e w2 ⟨rfl,Cp⟩;subst Cp))
      have B4:=hE.alloc (.cells #[.string x.nm,x.a0,x.a1,x.b0,x.b1,x.c0,x.c1] 51);have Qn:(wr.alloc (.cells #[.string x.nm,x.a0,x.a1,x.b0,x.b1,x.c0,x.c1] 51)).heap[wr.heap.size]? =some (.cells #[.string x.nm,x.a0,x.a1,x.b0,x.b1,x.c0,x.c1] 51):=(by rw[Z3,YZ rfl]);have hr5:=((Ext.rfl' wr).alloc (.cells #[.string x.nm,x.a0,x.a1,x.b0,x.b1,x.c0,x.c1] 51)).get hr;have HN:Hid (nmL x∈(L.take i).map nmL↔nmL x∈((L.take i).drop 0).map nmL):=UO;clear Ft k0 k1 k2 k3 k4 k5 k6 hr q4;have Ou:=Ey.ext ((Ext.rfl' wr).alloc (.cells #[.string x.nm,x.a0,x.a1,x.b0,x.b1,x.c0,x.c1] 51));generalize World.alloc wr _=V at Ou B4 Qn hr5⊢;obtain⟨wo,rfl⟩:∃wo:World,wo=wr:=⟨_,rfl⟩;go_loopw [6] (λv wi=>∃k:Nat,k<=i/\v= .int .i64 k/\Ext V wi/\Hid (nmL x∈(L.take i).map nmL↔nmL x∈((L.take i).drop k).map nmL)) (λv _=>i - (intOf v).toNat)
      case atStart=>exact⟨0,XS _,rfl,Ext.rfl' V,HN⟩
      case round=>
       obtain⟨k,hk,rfl,Qo,Qp⟩:=hrel;clear HN;have hrk:=Qo.get hr5;have Mw:=Qo.get Qn;have q4:=Z0 hrk 4;simp only[YC,YA,YB] at q4;by_cases Gu:k=i
       ·subst Gu;have Ln:¬nmL x∈(L.take k).map nmL:=(by rw[Qp.out,TJ (by rw[UK];omega)];simp);have Gh:Hid (Zp a b c m L=if Z8b x=false then 1 else shA ((L.take (k+1)).map nmL) (L.drop (k+1))):=(by show _=_;rw[Gf.out,XA Ln]);have y1:=Z0 Mw 1;have y2:=Z0 Mw 2;have y3:=Z0 Mw 3;have y4:=Z0 Mw 4;have y5:=Z0 Mw 5;have y6:=Z0 Mw 6;simp only[YC,YA,YB] at y1 y2 y3 y4 y5 y6;have H2:∀w,Calls gp 54 #[.agg #[x.a0,x.a1],.int .i64 0,.int .i64 9999] w λe w'=>e= .returned (.bool (ZF (spA x 0)))/\Ext w w':=λw=>Z2e x.a0 x.a1 0 9999 w
        have Fw:∀w,Calls gp 54 #[.agg #[x.b0,x.b1],.int .i64 0,.int .i64 9999] w λe w'=>e= .returned (.bool (ZF (spA x 1)))/\Ext w w':=λw=>Z2e x.b0 x.b1 0 9999 w
        have Kx:∀w,Calls gp 54 #[.agg #[x.c0,x.c1],.int .i64 0,.int .i64 9999] w λe w'=>e= .returned (.bool (ZF (spA x 2)))/\Ext w w':=λw=>Z2e x.c0 x.c1 0 9999 w
        have Bq:Z8b x=(ZF (spA x 0)&&ZF (spA x 1)&&ZF (spA x 2)):=rfl;have Da:=B4.trans Qo;have An:=Mw;have Ds:=hrk;clear Gf Qp Ln hx Qn Qo;cases h1:ZF (spA x 0) with
        |false=>
         simp only[h1] at H2;have Av:Hid (Zp a b c m L=1):=(by show _=_;rw[Gh.out,YZ (by rw[Bq,h1];simp)]);clear Gh Bq
         go_wp2_with (first
          |(go_at_call 54;(with_reducible refine(H2 _).mono ?_);rintro e w2 ⟨rfl,A4⟩;replace Da:=Da.trans A4;replace An:=A4.get An;replace Ds:=A4.get Ds;clear A4 y1 y2 y3 y4 y5 y6;have y1:=Z0 An 1;have y2:=Z0 An 2;have y3:=Z0 An 3;have y4:=Z0 An 4;have y5:=Z0 An 5;have y6:=Z0 An 6;simp only[YC,YA,YB] at y1 y2 y3 y4 y5 y6)
          |(go_at_call 54;(with_reducible refine(Fw _).mono ?_);rintro e w2 ⟨rfl,A4⟩;replace Da:=Da.trans A4;replace An:=A4.get An;replace Ds:=A4.get Ds;clear A4 y1 y2 y3 y4 y5 y6;have y1:=Z0 An 1;have y2:=Z0 An 2;have y3:=Z0 An 3;have y4:=Z0 An 4;have y5:=Z0 An 5;have y6:=Z0 An 6;simp only[YC,YA,YB] at y1 y2 y3 y4 y5 y6)
          |(go_at_call 54;(with_reducible refine(Kx _).mono ?_);rintro e w2 ⟨rfl,A4⟩;replace Da:=Da.trans A4;replace An:=A4.get An;replace Ds:=A4.get Ds;clear A4 y1 y2 y3 y4 y5 y6;have y1:=Z0 An 1;have y2:=Z0 An 2;have y3:=Z0 An 3;have y4:=Z0 An 4;have y5:=Z0 An 5;have y6:=Z0 An 6;simp only[YC,YA,YB] at y1 y2 y3 y4 y5 y6))
         go_ret;exact⟨ZK (a:=1) Av.out.symm,Da⟩
        |true=>
         simp only[h1] at H2;cases h2:ZF (spA x 1) with
         |false=>
          simp only[h2] at Fw;have Av:Hid (Zp a b c m L=1):=(by show _=_;rw[Gh.out,YZ (by rw[Bq,h1,h2];simp)]);clear Gh Bq
          go_wp2_with (first
           |(go_at_call 54;(with_reducible refine(H2 _).mono ?_);rintro e w2 ⟨rfl,A4⟩;replace Da:=Da.trans A4;replace An:=A4.get An;replace Ds:=A4.get Ds;clear A4 y1 y2 y3 y4 y5 y6;have y1:=Z0 An 1;have y2:=Z0 An 2;have y3:=Z0 An 3;have y4:=Z0 An 4;have y5:=Z0 An 5;have y6:=Z0 An 6;simp only[YC,YA,YB] at y1 y2 y3 y4 y5 y6)
           |(go_at_call 54;(with_reducible refine(Fw _).mono ?_);rintro e w2 ⟨rfl,A4⟩;replace Da:=Da.trans A4;replace An:=A4.get An;replace Ds:=A4.get Ds;clear A4 y1 y2 y3 y4 y5 y6;have y1:=Z0 An 1;have y2:=Z0 An 2;have y3:=Z0 An 3;have y4:=Z0 An 4;have y5:=Z0 An 5;have y6:=Z0 An 6;simp only[YC,YA,YB] at y1 y2 y3 y4 y5 y6)
           |(go_at_call 54;(with_reducible refine(Kx _).mono ?_);rintro e w2 ⟨rfl,A4⟩;replace Da:=Da.trans A4;replace An:=A4.get An;replace Ds:=A4.get Ds;clear A4 y1 y2 y3 y4 y5 y6;have y1:=Z0 An 1;have y2:=Z0 An 2;have y3:=Z0 An 3;have y4:=Z0 An 4;have y5:=Z0 An 5;have y6:=Z0 An 6;simp only[YC,YA,YB] at y1 y2 y3 y4 y5 y6))
          go_ret;exact⟨ZK (a:=1) Av.out.symm,Da⟩
         |true=>
          simp only[h2] at Fw;cases h3:ZF (spA x 2) with
          |false=>
           simp only[h3] at Kx;have Av:Hid (Zp a b c m L=1):=(by show _=_;rw[Gh.out,YZ (by rw[Bq,h1,h2,h3];simp)]);clear Gh Bq
           go_wp2_with (first
            |(go_at_call 54;(with_reducible refine(H2 _).mono ?_);rintro e w2 ⟨rfl,A4⟩;replace Da:=Da.trans A4;replace An:=A4.get An;replace Ds:=A4.get Ds;clear A4 y1 y2 y3 y4 y5 y6;have y1:=Z0 An 1;have y2:=Z0 An 2;have y3:=Z0 An 3;have y4:=Z0 An 4;have y5:=Z0 An 5;have y6:=Z0 An 6;simp only[YC,YA,YB] at y1 y2 y3 y4 y5 y6)
            |(go_at_call 54;(with_reducible refine(Fw _).mono ?_);rintro e w2 ⟨rfl,A4⟩;replace Da:=Da.trans A4;replace An:=A4.get An;replace Ds:=A4.get Ds;clear A4 y1 y2 y3 y4 y5 y6;have y1:=Z0 An 1;have y2:=Z0 An 2;have y3:=Z0 An 3;have y4:=Z0 An 4;have y5:=Z0 An 5;have y6:=Z0 An 6;simp only[YC,YA,YB] at y1 y2 y3 y4 y5 y6)
            |(go_at_call 54;(with_reducible refine(Kx _).mono ?_);rintro e w2 ⟨rfl,A4⟩;replace Da:=Da.trans A4;replace An:=A4.get An;replace Ds:=A4.get Ds;clear A4 y1 y2 y3 y4 y5 y6;have y1:=Z0 An 1;have y2:=Z0 An 2;have y3:=Z0 An 3;have y4:=Z0 An 4;have y5:=Z0 An 5;have y6:=Z0 An 6;simp only[YC,YA,YB] at y1 y2 y3 y4 y5 y6))
           go_ret;exact⟨ZK (a:=1) Av.out.symm,Da⟩
          |true=>
           simp only[h3] at Kx;have Av:Hid (Zp a b c m L=shA ((L.take (k+1)).map nmL) (L.drop (k+1))):=(by show _=_;rw[Gh.out,XA (by rw[Bq,h1,h2,h3];simp)]);clear Gh Bq
           go_wp2_with (first
            |(go_at_call 54;(with_reducible refine(H2 _).mono ?_);rintro e w2 ⟨rfl,A4⟩;replace Da:=Da.trans A4;replace An:=A4.get An;replace Ds:=A4.get Ds;clear A4 y1 y2 y3 y4 y5 y6;have y1:=Z0 An 1;have y2:=Z0 An 2;have y3:=Z0 An 3;have y4:=Z0 An 4;have y5:=Z0 An 5;have y6:=Z0 An 6;simp only[YC,YA,YB] at y1 y2 y3 y4 y5 y6)
            |(go_at_call 54;(with_reducible refine(Fw _).mono ?_);rintro e w2 ⟨rfl,A4⟩;replace Da:=Da.trans A4;replace An:=A4.get An;replace Ds:=A4.get Ds;clear A4 y1 y2 y3 y4 y5 y6;have y1:=Z0 An 1;have y2:=Z0 An 2;have y3:=Z0 An 3;have y4:=Z0 An 4;have y5:=Z0 An 5;have y6:=Z0 An 6;simp only[YC,YA,YB] at y1 y2 y3 y4 y5 y6)
            |(go_at_call 54;(with_reducible refine(Kx _).mono ?_);rintro e w2 ⟨rfl,A4⟩;replace Da:=Da.trans A4;replace An:=A4.get An;replace Ds:=A4.get Ds;clear A4 y1 y2 y3 y4 y5 y6;have y1:=Z0 An 1;have y2:=Z0 An 2;have y3:=Z0 An 3;have y4:=Z0 An 4;have y5:=Z0 An 5;have y6:=Z0 An 6;simp only[YC,YA,YB] at y1 y2 y3 y4 y5 y6))
           exact⟨⟨k+1,by omega,by push_cast;rfl,Ds,Da,Av⟩,by simp[intOf];omega⟩
       ·have Yl:k<i:=(by omega);obtain⟨y,hy⟩:∃y,L[k]? =some y:=⟨_,YH (by omega)⟩;obtain⟨b2,off2,Em,As,hky,hnmy⟩:=(Ou.ext Qo) k y hy;obtain⟨rfl,rfl⟩:b'=b2/\off=off2:=(by simpa using Em);have Bm:=hky.1;have Bo:=Z0 Mw 0;simp only[YC,YA] at Bo;have Ct:¬n<=k:=(by omega);have Fd:nmL x∈((L.take i).drop k).map nmL↔nmL x=nmL y\/nmL x∈((L.take i).drop (k+1)).map nmL:=by
         have hty:(L.take i)[k]? =some y:=(by rw[List.getElem?_take,YZ Yl];exact hy);rw[Z0b hty,VC,XE]
        go_wp2_with fail
        have gz0:=Zet q4;have gz1:=Zet Bm;have gz2:=Zet Bo;refine ZeG 9 (by kernel_rfl) ?_;refine ZeB [0,1,2,3,4,5,6,7,8] (by kernel_rfl) (by kernel_rfl) ?_;simp only[ZeD,YB,YA,YK,YJ]
        repeat (go_big_quiet_step (fail))
        refine XU ?_;refine Zf6 (by kernel_rfl) (λW hW=> ?_);have Bf:=hW;clear gz0 gz1 gz2;have Ts:=Qo.trans Bf;by_cases Cz:nmL x=nmL y
        ·have he:(y.nm.toList==x.nm.toList)=true:=(by simp[ZdG Cz]);have Av:Hid (Zp a b c m L=5):=(by show _=_;rw[Gf.out,YZ (Qp.out.2 (Fd.2 (.inl Cz)))]);rw[he];clear he Gf Qp Fd;go_wp2;go_ret;exact⟨ZK (a:=5) Av.out.symm,B4.trans Ts⟩
        ·have he:(y.nm.toList==x.nm.toList)=false:=by
          rw[UC];intro h;exact Cz (by rw[nmL,nmL,(Z71 h).symm])
         have Q6:Hid (nmL x∈(L.take i).map nmL↔nmL x∈((L.take i).drop (k+1)).map nmL):=(by show _↔_;rw[Qp.out,Fd];simp[Cz]);rw[he];clear he Qp Fd;go_wp2;go_roundw
         case rel=>exact⟨k+1,by omega,by push_cast;rfl,Ts,Q6⟩
         case measure=>simp[intOf];omega
 ·have Ie:Z2J a b c m=1:=by
   unfold Z2J at hR⊢;split at hR
   ·exact absurd rfl hR
   ·rw[XA (by assumption)]
  have hF:Hid (Zp a b c m L=1):=by show _=_;rw[Zp,firstV,XA hR,Ie]
  have Io:(okA a 9999&&okA b 9999&&okA c 9999&&decide (2<=m/\m<=4))=false:=by
   unfold Z2J at hR;split at hR
   ·exact absurd rfl hR
   ·rename_i h;simpa using h
  clear hR Ie;cases h1:okA a 9999 with
  |false=>
   simp only[h1] at Bj;clear Io h1;go_enter fk Tryz.func17,Tryz.ntmps17
   go_wp2_with (first
    |(go_at_call 52;(with_reducible refine(Bj _).mono ?_);rintro e w2 ⟨rfl,rfl⟩)
    |(go_at_call 52;(with_reducible refine(Bh _).mono ?_);rintro e w2 ⟨rfl,rfl⟩)
    |(go_at_call 52;(with_reducible refine(C9 _).mono ?_);rintro e w2 ⟨rfl,rfl⟩)
    |(go_at_call 52;(with_reducible refine(I8 _).mono ?_);rintro e w2 ⟨rfl,rfl⟩))
   go_ret;exact⟨ZK (a:=1) hF.out.symm,((Ext.rfl' w).alloc _).alloc _⟩
  |true=>
   simp only[h1] at Bj;cases h2:okA b 9999 with
   |false=>
    simp only[h2] at Bh;clear Io h1 h2;go_enter fk Tryz.func17,Tryz.ntmps17
    go_wp2_with (first
     |(go_at_call 52;(with_reducible refine(Bj _).mono ?_);rintro e w2 ⟨rfl,rfl⟩)
     |(go_at_call 52;(with_reducible refine(Bh _).mono ?_);rintro e w2 ⟨rfl,rfl⟩)
     |(go_at_call 52;(with_reducible refine(C9 _).mono ?_);rintro e w2 ⟨rfl,rfl⟩)
     |(go_at_call 52;(with_reducible refine(I8 _).mono ?_);rintro e w2 ⟨rfl,rfl⟩))
    go_ret;exact⟨ZK (a:=1) hF.out.symm,((Ext.rfl' w).alloc _).alloc _⟩
   |true=>
    simp only[h2] at Bh;cases h3:okA c 9999 with
    |false=>
     simp only[h3] at C9;clear Io h1 h2 h3;go_enter fk Tryz.func17,Tryz.ntmps17
     go_wp2_with (first
      |(go_at_call 52;(with_reducible refine(Bj _).mono ?_);rintro e w2 ⟨rfl,rfl⟩)
      |(go_at_call 52;(with_reducible refine(Bh _).mono ?_);rintro e w2 ⟨rfl,rfl⟩)
      |(go_at_call 52;(with_reducible refine(C9 _).mono ?_);rintro e w2 ⟨rfl,rfl⟩)
      |(go_at_call 52;(with_reducible refine(I8 _).mono ?_);rintro e w2 ⟨rfl,rfl⟩))
     go_ret;exact⟨ZK (a:=1) hF.out.symm,((Ext.rfl' w).alloc _).alloc _⟩
    |true=>
     simp only[h3] at C9;have h4:decide (2<=m/\m<=4)=false:=(by rw[h1,h2,h3] at Io;simpa using Io);simp only[h4] at I8;clear Io h1 h2 h3 h4;go_enter fk Tryz.func17,Tryz.ntmps17
     go_wp2_with (first
      |(go_at_call 52;(with_reducible refine(Bj _).mono ?_);rintro e w2 ⟨rfl,rfl⟩)
      |(go_at_call 52;(with_reducible refine(Bh _).mono ?_);rintro e w2 ⟨rfl,rfl⟩)
      |(go_at_call 52;(with_reducible refine(C9 _).mono ?_);rintro e w2 ⟨rfl,rfl⟩)
      |(go_at_call 52;(with_reducible refine(I8 _).mono ?_);rintro e w2 ⟨rfl,rfl⟩))
     go_ret;exact⟨ZK (a:=1) hF.out.symm,((Ext.rfl' w).alloc _).alloc _⟩
def chooseR:List Int->List (List Int)
 |[]=>[[]]
 |x::t=>[]::((chooseR t).map (x::·)++(chooseR t).tail)
theorem chooseR_head:∀l,chooseR l=[]::(chooseR l).tail
 |[]=>rfl
 |_::_=>rfl
theorem chooseR_ne:∀(l:List Int)(c:List Int),c∈(chooseR l).tail->c≠[]
 |[],c,h=>by cases h
 |x::t,c,h=>by
  rcases VB.1 (show c∈(chooseR t).map (x::·)++(chooseR t).tail from h) with h|h
  ·obtain⟨y,_,rfl⟩:=VD.1 h;simp
  ·exact chooseR_ne t c h
def ZeS(n:Nat)(out:Nat->Bool)(i:Nat):List Int:=((List.range' i (n - i)).filter λk=> !out k).map fun(k:Nat)=>(k:Int)
theorem chooseR_mem:∀(s c:List Int),c∈chooseR s->List.Sublist c s
 |[],c,h=>by cases XO.1 h;exact List.Sublist.refl _
 |x::t,c,h=>by
  rcases XE.1 h with rfl|h
  ·exact List.nil_sublist _
  ·rcases VB.1 h with h|h
   ·obtain⟨y,hy,rfl⟩:=VD.1 h;exact(chooseR_mem t y hy).cons_cons x
   ·exact(chooseR_mem t c (List.mem_of_mem_tail h)).cons x
theorem mem_chooseR:∀(s c:List Int),List.Sublist c s->c∈chooseR s
 |[],c,h=>by rw[List.sublist_nil.1 h];simp[chooseR]
 |x::t,c,h=>by
  cases c with
  |nil=>exact YY
  |cons y c=>
   rw[chooseR];refine YW _ (VB.2 ?_);cases h with
   |cons _ h=>
    right
    have:=mem_chooseR t _ h;rw[chooseR_head] at this;rcases XE.1 this with h2|h2
    ·cases h2
    ·exact h2
   |cons_cons _ h=>exact .inl (VD.2 ⟨c,mem_chooseR t c h,rfl⟩)
end
def Zm(f:Nat->Bool)(bt:Int->Int->Bool):Nat->Nat×Bool
 |0=>(0,false)
 |k+1=>if f k&&(!(Zm f bt k).2||bt (bl k).length (bl (Zm f bt k).1).length||((bl k).length==(bl (Zm f bt k).1).length&&Z1g k (Zm f bt k).1)) then(k,true) else Zm f bt k
theorem Z56(f:Nat->Bool)(bt:Int->Int->Bool):∀k,k<=256->(Zm f bt k).1<256
 |0,_=>by simp[Zm]
 |k+1,h=>by
  rw[Zm];split
  ·simp;omega
  ·exact Z56 f bt k (by omega)
theorem Z7K(r0 r1 r2 r3:Int)(base:Option Addr)(cap B n:Nat)(p:Nat->Nat)(C:Nat->Nat->Int×Int)(hn:n<=8)(ft:Bool)(g:FuncId)(bt:Int->Int->Bool)(w:World)(hm:Most w)(hC:Cv w B n p C)(hd:Deb w)
 (Fl:∀args w,(callFunc g args).run prog w= .ok (.enter g args) w)(hgc:∀a b w,Calls prog g #[.int .i64 a,.int .i64 b] w λe w'=>e= .returned (.bool (bt a b))/\w'=w):
 Calls prog 75 #[.agg #[r0,r1,r2,r3,.slice base n cap,.slice (some ⟨B,0,none⟩) n n],.bool ft,.func (.func g) #[] #[]] w λe w'=>
  ∃v,e= .returned (.tuple #[v,.bool (Zm (λk=>Zz C k n==ft) bt (2 ^ n)).2])/\OwnI w.heap.size w' v ((bl (Zm (λk=>Zz C k n==ft) bt (2 ^ n)).1).map fun(i:Nat)=>(i:Int))/\Ext w w':=by
 have Nu:=Z2Z hn;have Bb:=λv w'=>Z08 r0 r1 r2 r3 base n cap v hn w'
 go_enter fk Tryz.func75,Tryz.ntmps75;have hc:(w.alloc (.cells #[r0,r1,r2,r3,.slice base n cap,.slice (some ⟨B,0,none⟩) n n] 136)).heap[w.heap.size]? =some (.cells #[r0,r1,r2,r3,.slice base n cap,.slice (some ⟨B,0,none⟩) n n] 136):=by rw[Z3,YZ rfl]
 have Ab:=(Ext.rfl' w).alloc (.cells #[r0,r1,r2,r3,.slice base n cap,.slice (some ⟨B,0,none⟩) n n] 136)
 go_wp2_with (first
  |(go_at_call 70;refine(Bb _ _).mono ?_;rintro e w2 ⟨rfl,A4⟩;have Cn:=A4.get hc))
 have Ah:=Ab.trans A4;have Mx:((2:Int) ^ n)=((2 ^ n:Nat):Int):=by push_cast;rfl
 have Ee:2 ^ n<=256:=by omega
 rw[Mx];clear Mx Nu A4 hc Ab;obtain⟨m,Hm⟩:∃m,m=2 ^ n:=⟨_,rfl⟩;rw[<-Hm] at Ee⊢;replace Hm:=QV Hm;go_loopw [8,9,16] (λvb vf vk wr=>∃k:Nat,k<=m/\vk= .int .i64 k/\vb= .int .i64 ((Zm (λk=>Zz C k n==ft) bt k).1:Nat)/\vf= .bool (Zm (λk=>Zz C k n==ft) bt k).2/\Ext w wr/\wr.heap[w.heap.size]? =some (.cells #[r0,r1,r2,r3,.slice base n cap,.slice (some ⟨B,0,none⟩) n n] 136)) (λ_ _ vk _=>m - (intOf vk).toNat)
 case atStart=>exact⟨0,XS _,rfl,rfl,rfl,Ah,Cn⟩
 case round=>
  obtain⟨k,hk,rfl,rfl,rfl,hE,D9⟩:=hrel;clear Ah Cn;have c0:=Z0 D9 0;have c1:=Z0 D9 1;have c2:=Z0 D9 2;have c3:=Z0 D9 3;have c4:=Z0 D9 4;have c5:=Z0 D9 5;simp only[YC,YA,YB] at c0 c1 c2 c3 c4 c5;have Bw:=Z56 (λk=>Zz C k n==ft) bt k (by omega);by_cases Le:k=m
  ·subst Le;have Ym:=λw hd=>ZbS _ Bw w hd
   go_wp2_with (first|(go_at_call 117;refine(Ym _ (hd.ext hE)).mono ?_;rintro e w9 ⟨v,rfl,hv,Bv⟩))
   go_ret2;rw[<-Hm.out];exact⟨v,rfl,hv.le hE.size,hE.trans Bv⟩
  ·have Az:k<256:=by omega
   have F4:=Z7j r0 r1 r2 r3 (.slice base n cap) B n (k:Int) p C hn (by omega) wr (hm.ext hE) (hC.ext hE);have H:Hid (Zm (λk=>Zz C k n==ft) bt (k+1)=if(Zz C k n==ft)&&(!(Zm (λk=>Zz C k n==ft) bt k).2||bt (bl k).length (bl (Zm (λk=>Zz C k n==ft) bt k).1).length||((bl k).length==(bl (Zm (λk=>Zz C k n==ft) bt k).1).length&&Z1g k (Zm (λk=>Zz C k n==ft) bt k).1)) then(k,true) else Zm (λk=>Zz C k n==ft) bt k):=rfl;generalize Zm (λk=>Zz C k n==ft) bt k=P at H Bw⊢;obtain⟨b,f⟩:=P;have Y7:(0:Int)<=(k:Int):=by omega
   have Fk:(k:Int)<256:=by omega
   have I2:(0:Int)<=(b:Int):=by omega
   have B9:(b:Int)<256:=by have:b<256:=Bw;omega
   have Mi:=λw=>Z7k k Az w
   have If:=λw=>Z7k b Bw w
   have Cc:=λw=>hgc (bl k).length (bl b).length w
   have Lo:=λw=>Z89 (k:Int) (b:Int) ⟨Y7,Fk⟩ ⟨I2,B9⟩ w
   simp only at H If Cc Lo;have hkm2:((k:Int)<(m:Int)):=by omega
   generalize (bl k).length=x at H Mi Cc;generalize (bl b).length=y at H If Cc;generalize Z1g (k:Int) (b:Int)=l at H Lo;generalize Zz C (k:Int) n=q at H F4;generalize bt (x:Int) (y:Int)=t at H Cc;by_cases hq:q=ft
   ·subst hq;cases f
    ·have e':Zm (λk=>Zz C k n==q) bt (k+1)=(k,true):=(by rw[H];simp);replace e':=QV e';clear H
     go_wp2_with (first
     |(go_at_call 111;refine F4.mono ?_;rintro e w2 ⟨rfl,A4⟩;have hW:=hE.trans A4;have Jw:=A4.get D9;clear c0 c1 c2 c3 c4 c5)
     |(go_at_call 115;refine(Mi _).mono ?_;rintro e w2 ⟨rfl,rfl⟩)
     |(go_at_call 115;refine(If _).mono ?_;rintro e w2 ⟨rfl,rfl⟩)
     |(go_at_call 116;refine(Lo _).mono ?_;rintro e w2 ⟨rfl,rfl⟩)
     |(refine(Cc _).mono ?_;rintro e w2 ⟨rfl,rfl⟩))
     go_roundw
     case rel=>exact⟨k+1,by omega,by push_cast;rfl,by rw[e'.out],by rw[e'.out],hW,Jw⟩
     case measure=>simp[intOf];omega
    ·cases t
     ·by_cases Cz:x=y
      ·subst Cz;have Hn:(((x:Int)==(x:Int)))=true:=(by simp);cases l
       ·have e':Zm (λk=>Zz C k n==q) bt (k+1)=(b,true):=(by rw[H];simp);replace e':=QV e';clear H
        go_wp2_with (first
        |(go_at_call 111;refine F4.mono ?_;rintro e w2 ⟨rfl,A4⟩;have hW:=hE.trans A4;have Jw:=A4.get D9;clear c0 c1 c2 c3 c4 c5)
        |(go_at_call 115;refine(Mi _).mono ?_;rintro e w2 ⟨rfl,rfl⟩)
        |(go_at_call 115;refine(If _).mono ?_;rintro e w2 ⟨rfl,rfl⟩)
        |(go_at_call 116;refine(Lo _).mono ?_;rintro e w2 ⟨rfl,rfl⟩)
        |(refine(Cc _).mono ?_;rintro e w2 ⟨rfl,rfl⟩))
        go_roundw
        case rel=>exact⟨k+1,by omega,by push_cast;rfl,by rw[e'.out],by rw[e'.out],hW,Jw⟩
        case measure=>simp[intOf];omega
       ·have e':Zm (λk=>Zz C k n==q) bt (k+1)=(k,true):=(by rw[H];simp);replace e':=QV e';clear H
        go_wp2_with (first
        |(go_at_call 111;refine F4.mono ?_;rintro e w2 ⟨rfl,A4⟩;have hW:=hE.trans A4;have Jw:=A4.get D9;clear c0 c1 c2 c3 c4 c5)
        |(go_at_call 115;refine(Mi _).mono ?_;rintro e w2 ⟨rfl,rfl⟩)
        |(go_at_call 115;refine(If _).mono ?_;rintro e w2 ⟨rfl,rfl⟩)
        |(go_at_call 116;refine(Lo _).mono ?_;rintro e w2 ⟨rfl,rfl⟩)
        |(refine(Cc _).mono ?_;rintro e w2 ⟨rfl,rfl⟩))
        go_roundw
        case rel=>exact⟨k+1,by omega,by push_cast;rfl,by rw[e'.out],by rw[e'.out],hW,Jw⟩
        case measure=>simp[intOf];omega
      ·have Hn:(((x:Int)==(y:Int)))=false:=(by simp;omega);have e':Zm (λk=>Zz C k n==q) bt (k+1)=(b,true):=(by rw[H];simp[Cz]);replace e':=QV e';clear H
       go_wp2_with (first
       |(go_at_call 111;refine F4.mono ?_;rintro e w2 ⟨rfl,A4⟩;have hW:=hE.trans A4;have Jw:=A4.get D9;clear c0 c1 c2 c3 c4 c5)
       |(go_at_call 115;refine(Mi _).mono ?_;rintro e w2 ⟨rfl,rfl⟩)
       |(go_at_call 115;refine(If _).mono ?_;rintro e w2 ⟨rfl,rfl⟩)
       |(go_at_call 116;refine(Lo _).mono ?_;rintro e w2 ⟨rfl,rfl⟩)
       |(refine(Cc _).mono ?_;rintro e w2 ⟨rfl,rfl⟩))
       go_roundw
       case rel=>exact⟨k+1,by omega,by push_cast;rfl,by rw[e'.out],by rw[e'.out],hW,Jw⟩
       case measure=>simp[intOf];omega
     ·have e':Zm (λk=>Zz C k n==q) bt (k+1)=(k,true):=(by rw[H];simp);replace e':=QV e';clear H
      go_wp2_with (first
      |(go_at_call 111;refine F4.mono ?_;rintro e w2 ⟨rfl,A4⟩;have hW:=hE.trans A4;have Jw:=A4.get D9;clear c0 c1 c2 c3 c4 c5)
      |(go_at_call 115;refine(Mi _).mono ?_;rintro e w2 ⟨rfl,rfl⟩)
      |(go_at_call 115;refine(If _).mono ?_;rintro e w2 ⟨rfl,rfl⟩)
      |(go_at_call 116;refine(Lo _).mono ?_;rintro e w2 ⟨rfl,rfl⟩)
      |(refine(Cc _).mono ?_;rintro e w2 ⟨rfl,rfl⟩))
      go_roundw
      case rel=>exact⟨k+1,by omega,by push_cast;rfl,by rw[e'.out],by rw[e'.out],hW,Jw⟩
      case measure=>simp[intOf];omega
   ·cases q<;>cases ft<;>first
     |exact absurd rfl hq
     |(
       have e':=H.trans (XA (by simp));replace e':=QV e';clear H
       go_wp2_with (first
       |(go_at_call 111;refine F4.mono ?_;rintro e w2 ⟨rfl,A4⟩;have hW:=hE.trans A4;have Jw:=A4.get D9;clear c0 c1 c2 c3 c4 c5)
       |(go_at_call 115;refine(Mi _).mono ?_;rintro e w2 ⟨rfl,rfl⟩)
       |(go_at_call 115;refine(If _).mono ?_;rintro e w2 ⟨rfl,rfl⟩)
       |(go_at_call 116;refine(Lo _).mono ?_;rintro e w2 ⟨rfl,rfl⟩)
       |(refine(Cc _).mono ?_;rintro e w2 ⟨rfl,rfl⟩))
       go_roundw
       case rel=>exact⟨k+1,by omega,by push_cast;rfl,by rw[e'.out],by rw[e'.out],hW,Jw⟩
       case measure=>simp[intOf];omega)
theorem ZbZ(a b:Int)(w:World):Calls prog 76 #[a,b] w λe w'=>e= .returned (.bool (decide (a<b)))/\w'=w:=by
 go_enter fk Tryz.func76,Tryz.ntmps76;go_wp2;go_ret;exact⟨rfl,rfl⟩
theorem Zc0(a b:Int)(w:World):Calls prog 77 #[a,b] w λe w'=>e= .returned (.bool (decide (b<a)))/\w'=w:=by
 go_enter fk Tryz.func77,Tryz.ntmps77;go_wp2;go_ret;exact⟨rfl,rfl⟩
def Z7L(r0 r1 r2 r3:Int)(S:List Rs):List Int:=(bl (Zm (λk=>Zz (cvS r0 r1 r2 r3 (S.map Ze)) k S.length==false) (λa b=>decide (a<b)) (2 ^ S.length)).1).map fun(i:Nat)=>(i:Int)
def Z7M(r0 r1 r2 r3:Int)(S:List Rs):List Int:=(bl (Zm (λk=>Zz (cvS r0 r1 r2 r3 (S.map Ze)) k S.length==true) (λa b=>decide (b<a)) (2 ^ S.length)).1).map fun(i:Nat)=>(i:Int)
theorem Zas(r0 r1 r2 r3:Int)(base:Option Addr)(n cap:Nat)(S:List Rs)(w:World)(A1:S.length=n)(hS:RawS w base S)(hm:Most w)(hd:Deb w):
 Calls prog 31 #[.agg #[r0,r1,r2,r3,.slice base n cap]] w λe w'=>∃v,e= .returned (.tuple #[v,.int .i64 (ZC r0 r1 r2 r3 S)])/\OwnI w.heap.size w' v (if ZC r0 r1 r2 r3 S=0 then Z7L r0 r1 r2 r3 S else[])/\Ext w w':=by
 have B3:=Z0U r0 r1 r2 r3 base n cap S;simp only[Zh] at B3;have hb:(w.alloc (.cells #[r0,r1,r2,r3,.slice base n cap] 31)).heap[w.heap.size]? =some (.cells #[r0,r1,r2,r3,.slice base n cap] 31):=by rw[Z3,YZ rfl]
 have Ab:Ext w _:=(Ext.rfl' w).alloc (.cells #[r0,r1,r2,r3,.slice base n cap] 31);have Fj:=B3 _ A1 (hS.ext Ab);clear B3;by_cases Cq:ZC r0 r1 r2 r3 S=0
 ·obtain⟨_,h8,Bq⟩:=Z0i Cq;rw[YZ Cq];rw[Cq] at Fj⊢;clear Cq;have B8:(S.map Ze).length=n:=by rw[UI,A1]
  have Ec:n<=8:=by omega
  have Ki:=λw hS=>Z2c r0 r1 r2 r3 base cap w (S.map Ze) n B8 Ec hS
  have Yn:=λB p w hm hC hd=>Z7K r0 r1 r2 r3 base cap B n p (cvS r0 r1 r2 r3 (S.map Ze)) Ec false 76 (λa b=>decide (a<b)) w hm hC hd (λargs w=>by simp[go_sem]) ZbZ
  simp only[Zh] at Ki;go_enter fk Tryz.func31,Tryz.ntmps31
  go_wp2_with (first
   |(go_at_call 43;refine Fj.mono ?_;rintro e w2 ⟨rfl,A4⟩;have Ah:=Ab.trans A4;have As:=A4.get hb;have q0:=Z0 As 0;have q1:=Z0 As 1;have q2:=Z0 As 2;have q3:=Z0 As 3;have q4:=Z0 As 4;simp only[YC,YA,YB] at q0 q1 q2 q3 q4)
   |(go_at_call 74;refine(Ki _ (Z4J (hS.ext Ah) Bq)).mono ?_;rintro e w3 ⟨B,p,rfl,Ak,hC,_,_⟩;have B4:=Ah.trans Ak)
   |(go_at_call 75;refine(Yn B p _ (hm.ext B4) hC (hd.ext B4)).mono ?_;rintro e w4 ⟨v,rfl,hv,Bg⟩))
  go_ret2;exact⟨v,rfl,by rw[Z7L,A1];exact hv.le B4.size,B4.trans Bg⟩
 ·rw[XA Cq];have hx:(ZC r0 r1 r2 r3 S !=0)=true:=by simpa using Cq
  clear Cq;generalize ZC r0 r1 r2 r3 S=x at hx Fj⊢;go_enter fk Tryz.func31,Tryz.ntmps31
  go_wp2_with (first
   |(go_at_call 43;refine Fj.mono ?_;rintro e w2 ⟨rfl,A4⟩;have Ah:=Ab.trans A4))
  go_ret2;exact⟨_,rfl,VN _ _ _ _,Ah⟩
theorem Zat(r0 r1 r2 r3:Int)(base:Option Addr)(n cap:Nat)(S:List Rs)(w:World)(A1:S.length=n)(hS:RawS w base S)(hm:Most w)(hd:Deb w):
 Calls prog 32 #[.agg #[r0,r1,r2,r3,.slice base n cap]] w λe w'=>∃v,e= .returned (.tuple #[v,.int .i64 (ZC r0 r1 r2 r3 S)])/\OwnI w.heap.size w' v (if ZC r0 r1 r2 r3 S=0 then Z7M r0 r1 r2 r3 S else[])/\Ext w w':=by
 have B3:=Z0U r0 r1 r2 r3 base n cap S;simp only[Zh] at B3;have hb:(w.alloc (.cells #[r0,r1,r2,r3,.slice base n cap] 31)).heap[w.heap.size]? =some (.cells #[r0,r1,r2,r3,.slice base n cap] 31):=by rw[Z3,YZ rfl]
 have Ab:Ext w _:=(Ext.rfl' w).alloc (.cells #[r0,r1,r2,r3,.slice base n cap] 31);have Fj:=B3 _ A1 (hS.ext Ab);clear B3;by_cases Cq:ZC r0 r1 r2 r3 S=0
 ·obtain⟨_,h8,Bq⟩:=Z0i Cq;rw[YZ Cq];rw[Cq] at Fj⊢;clear Cq;have B8:(S.map Ze).length=n:=by rw[UI,A1]
  have Ec:n<=8:=by omega
  have Ki:=λw hS=>Z2c r0 r1 r2 r3 base cap w (S.map Ze) n B8 Ec hS
  have Yn:=λB p w hm hC hd=>Z7K r0 r1 r2 r3 base cap B n p (cvS r0 r1 r2 r3 (S.map Ze)) Ec true 77 (λa b=>decide (b<a)) w hm hC hd (λargs w=>by simp[go_sem]) Zc0
  simp only[Zh] at Ki;go_enter fk Tryz.func32,Tryz.ntmps32
  go_wp2_with (first
   |(go_at_call 43;refine Fj.mono ?_;rintro e w2 ⟨rfl,A4⟩;have Ah:=Ab.trans A4;have As:=A4.get hb;have q0:=Z0 As 0;have q1:=Z0 As 1;have q2:=Z0 As 2;have q3:=Z0 As 3;have q4:=Z0 As 4;simp only[YC,YA,YB] at q0 q1 q2 q3 q4)
   |(go_at_call 74;refine(Ki _ (Z4J (hS.ext Ah) Bq)).mono ?_;rintro e w3 ⟨B,p,rfl,Ak,hC,_,_⟩;have B4:=Ah.trans Ak)
   |(go_at_call 75;refine(Yn B p _ (hm.ext B4) hC (hd.ext B4)).mono ?_;rintro e w4 ⟨v,rfl,hv,Bg⟩))
  go_ret2;exact⟨v,rfl,by rw[Z7M,A1];exact hv.le B4.size,B4.trans Bg⟩
 ·rw[XA Cq];have hx:(ZC r0 r1 r2 r3 S !=0)=true:=by simpa using Cq
  clear Cq;generalize ZC r0 r1 r2 r3 S=x at hx Fj⊢;go_enter fk Tryz.func32,Tryz.ntmps32
  go_wp2_with (first
   |(go_at_call 43;refine Fj.mono ?_;rintro e w2 ⟨rfl,A4⟩;have Ah:=Ab.trans A4))
  go_ret2;exact⟨_,rfl,VN _ _ _ _,Ah⟩
def Z1e(r0 r1 r2 r3:Int)(S:List Rs)(k:Int):Int:=firstV [ZC r0 r1 r2 r3 S,Z6r S.length k]
def Z68(r2 r3:Int)(s:Rs):Int×Int:=(lo s.m s.wi s.li r2 r3,hi s.M s.wi s.li r2 r3)
def Zau(r0 r1 r2 r3:Int)(S:List Rs)(k:Int):Int×Int:=if Z1e r0 r1 r2 r3 S k=0 then(match S[k.toNat]? with|some s=>Z68 r2 r3 s|none=>(0,0)) else(0,0)
theorem Z69(r0 r1 r2 r3:Int)(base:Option Addr)(n cap:Nat)(S:List Rs)(k:Int)(w:World)(A1:S.length=n)(Tq:n<=20)(hS:RawS w base S):
 Calls prog 25 #[.agg #[r0,r1,r2,r3,.slice base n cap],k] w λe w'=>e= .returned (.tuple #[.agg #[.int .i64 (Zau r0 r1 r2 r3 S k).1,.int .i64 (Zau r0 r1 r2 r3 S k).2],.int .i64 (Z1e r0 r1 r2 r3 S k)])/\Ext w w':=by
 have Ak:Ext w ((((w.alloc (.cells #[r0,r1,r2,r3,.slice base n cap] 31)).alloc (.cells #[k] 3)).alloc (.cells #[.int .i64 0,.int .i64 0] 49)).alloc (.cells #[.func (.func 62) #[] #[.pointer (some ⟨w.heap.size,0,none⟩)],.func (.func 63) #[] #[.pointer (some ⟨w.heap.size+1,0,none⟩),.pointer (some ⟨w.heap.size,0,none⟩)]] 129)):=((((Ext.rfl' w).alloc _).alloc _).alloc _).alloc _;have hb:((((w.alloc (.cells #[r0,r1,r2,r3,.slice base n cap] 31)).alloc (.cells #[k] 3)).alloc (.cells #[.int .i64 0,.int .i64 0] 49)).alloc (.cells #[.func (.func 62) #[] #[.pointer (some ⟨w.heap.size,0,none⟩)],.func (.func 63) #[] #[.pointer (some ⟨w.heap.size+1,0,none⟩),.pointer (some ⟨w.heap.size,0,none⟩)]] 129)).heap[w.heap.size]? =some (.cells #[r0,r1,r2,r3,.slice base n cap] 31):=by
  simp only[Z3,Z2];rw[XA (by omega),XA (by omega),XA (by omega),YZ trivial]
 have hk:((((w.alloc (.cells #[r0,r1,r2,r3,.slice base n cap] 31)).alloc (.cells #[k] 3)).alloc (.cells #[.int .i64 0,.int .i64 0] 49)).alloc (.cells #[.func (.func 62) #[] #[.pointer (some ⟨w.heap.size,0,none⟩)],.func (.func 63) #[] #[.pointer (some ⟨w.heap.size+1,0,none⟩),.pointer (some ⟨w.heap.size,0,none⟩)]] 129)).heap[w.heap.size+1]? =some (.cells #[k] 3):=by
  simp only[Z3,Z2];rw[XA (by omega),XA (by omega),YZ trivial]
 have hz:((((w.alloc (.cells #[r0,r1,r2,r3,.slice base n cap] 31)).alloc (.cells #[k] 3)).alloc (.cells #[.int .i64 0,.int .i64 0] 49)).alloc (.cells #[.func (.func 62) #[] #[.pointer (some ⟨w.heap.size,0,none⟩)],.func (.func 63) #[] #[.pointer (some ⟨w.heap.size+1,0,none⟩),.pointer (some ⟨w.heap.size,0,none⟩)]] 129)).heap[w.heap.size+1+1]? =some (.cells #[.int .i64 0,.int .i64 0] 49):=by
  simp only[Z3,Z2];rw[XA (by omega),YZ trivial]
 have hf:((((w.alloc (.cells #[r0,r1,r2,r3,.slice base n cap] 31)).alloc (.cells #[k] 3)).alloc (.cells #[.int .i64 0,.int .i64 0] 49)).alloc (.cells #[.func (.func 62) #[] #[.pointer (some ⟨w.heap.size,0,none⟩)],.func (.func 63) #[] #[.pointer (some ⟨w.heap.size+1,0,none⟩),.pointer (some ⟨w.heap.size,0,none⟩)]] 129)).heap[w.heap.size+1+1+1]? =some (.cells #[.func (.func 62) #[] #[.pointer (some ⟨w.heap.size,0,none⟩)],.func (.func 63) #[] #[.pointer (some ⟨w.heap.size+1,0,none⟩),.pointer (some ⟨w.heap.size,0,none⟩)]] 129):=by
  simp only[Z3,Z2];rw[YZ trivial]
 have He:=λw4 (Ak:Ext w w4)(hb:w4.heap[w.heap.size]? =some (.cells #[r0,r1,r2,r3,.slice base n cap] 31))(hk:w4.heap[w.heap.size+1]? =some (.cells #[k] 3))(hf:w4.heap[w.heap.size+1+1+1]? =some (.cells #[.func (.func 62) #[] #[.pointer (some ⟨w.heap.size,0,none⟩)],.func (.func 63) #[] #[.pointer (some ⟨w.heap.size+1,0,none⟩),.pointer (some ⟨w.heap.size,0,none⟩)]] 129))=>
  Z1S (w.heap.size+1+1+1) 2 2 (λi=>if i=0 then 62 else 63) (λi=> #[]) (λi=>if i=0 then #[.pointer (some ⟨w.heap.size,0,none⟩)] else #[.pointer (some ⟨w.heap.size+1,0,none⟩),.pointer (some ⟨w.heap.size,0,none⟩)]) [ZC r0 r1 r2 r3 S,Z6r n k] rfl (by omega) w4 (by
   intro i hi;rw[Z0 hf];obtain rfl|rfl:i=0\/i=1:=by omega
   ·rfl
   ·rfl) (by
   intro i hi args w';obtain rfl|rfl:i=0\/i=1:=by omega
   ·simp[go_sem]
   ·simp[go_sem]) (by
   intro i x hx w' hE'
   match i,hx with
   |0,hx=>
    obtain rfl:=YT hx;exact ZcT r0 r1 r2 r3 base n cap S w' A1 (hS.ext (Ak.trans hE')) _ (hE'.get hb)
   |1,hx=>
    obtain rfl:=YT hx;exact ZcV r0 r1 r2 r3 base n cap Tq w' _ (hE'.get hb) _ k (hE'.cellS (by rw[Z0 hk];rfl)))
 have Dm:firstV [ZC r0 r1 r2 r3 S,Z6r n k]=Z1e r0 r1 r2 r3 S k:=by rw[Z1e,A1]
 rw[Dm] at He;clear Dm;have Cp:w.heap.size<=w.heap.size+1+1:=by omega
 have Lb:=He _ Ak hb hk hf;clear He hf;by_cases Cq:Z1e r0 r1 r2 r3 S k=0
 ·have Ao:0<=k/\k<n:=by
   have h2:=firstV_all Cq (Z6r S.length k) (by simp);unfold Z6r at h2;rw[A1] at h2;split at h2
   ·assumption
   ·omega
  obtain⟨sh,Bz⟩:∃sh,S[k.toNat]? =some sh:=⟨_,YH (by omega)⟩;rw[Zau,YZ Cq,Bz];simp only;rw[Cq] at Lb⊢;clear Cq;obtain⟨b,off,rfl,Bw,hat⟩:=hS _ _ Bz;have hwd:=λw Bw hat=>Z39 r0 r1 r2 r3 sh.a sh.m sh.M sh.wi sh.li k b off n cap w Ao.1 (by omega) Bw hat
  simp only[Zg,Z83] at hwd;go_enter fk Tryz.func25,Tryz.ntmps25
  go_wp2_with (first
   |(go_at_call 61;refine Lb.mono ?_;rintro e w5 ⟨rfl,B4⟩;have Bg:=Ak.trans B4;have Nl:=B4.get hb;have hk5:=B4.get hk;have Vs:=B4.get hz;have q0:=Z0 Nl 0;have q1:=Z0 Nl 1;have q2:=Z0 Nl 2;have q3:=Z0 Nl 3;have q4:=Z0 Nl 4;have q5:=Z0 hk5 0;simp only[YC,YA,YB] at q0 q1 q2 q3 q4 q5;clear hb hk hz)
   |(go_at_call 66;refine(hwd _ (Bg.lt Bw) ⟨Bg.cellS hat.c0,Bg.cellS hat.c1,Bg.cellS hat.c2,Bg.cellS hat.c3,Bg.cellS hat.c4⟩).mono ?_;rintro e w6 ⟨rfl,hG⟩;have E5:=Bg.trans hG.ext;have Tt:=hG.ext.get Vs;have p:=Zc Tt;have p0:=p.1;have p1:=p.2.1;have p2:=p.2.2.1;have p3:=p.2.2.2;clear p))
  have hh:=Zc (set_pair Tt (.int .i64 (lo sh.m sh.wi sh.li r2 r3)) (.int .i64 (hi sh.M sh.wi sh.li r2 r3)));have Tu:=hh.1;have Tv:=hh.2.1;refine VE (v:= .tuple #[.agg #[.int .i64 (lo sh.m sh.wi sh.li r2 r3),.int .i64 (hi sh.M sh.wi sh.li r2 r3)],.int .i64 0]) ((Z01 rfl _ _ _).trans ?_) rfl ⟨rfl,(E5.setCell _ _ Cp).setCell _ _ Cp⟩;simp[go_sem,Tu,Tv]
 ·have hx:(Z1e r0 r1 r2 r3 S k !=0)=true:=by simpa using Cq
  rw[Zau,XA Cq];clear Cq;generalize Z1e r0 r1 r2 r3 S k=x at hx Lb⊢;go_enter fk Tryz.func25,Tryz.ntmps25
  go_wp2_with (first
   |(go_at_call 61;refine Lb.mono ?_;rintro e w5 ⟨rfl,B4⟩;have Bg:=Ak.trans B4;have Vs:=B4.get hz;have p:=Zc Vs;have p0:=p.1;have p1:=p.2.1;have p2:=p.2.2.1;have p3:=p.2.2.2;clear p hb hk hz))
  have hh:=Zc (set_pair Vs (.int .i64 0) (.int .i64 0));have Tu:=hh.1;have Tv:=hh.2.1;refine VE (v:= .tuple #[.agg #[.int .i64 0,.int .i64 0],x]) ((Z01 rfl _ _ _).trans ?_) rfl ⟨rfl,(Bg.setCell _ _ Cp).setCell _ _ Cp⟩;simp[go_sem,Tu,Tv]
structure CardOk(r0 r1 r2 r3:Int)(S:List Rs):Prop where
 h0:0<=r0
 h1:r0<=r1/\r1<=999
 h2:0<=r2/\r2<=999
 h3:0<=r3/\r3<=999
 len:S.length<=8
 ok:∀s∈S,(0<=s.a/\s.a<=90)/\(0<=s.m/\s.m<=s.M/\s.M<=99999)/\(0<=s.wi/\s.wi<=9)/\(0<=s.li/\s.li<=9)
theorem Zav{r0 r1 r2 r3:Int}{S:List Rs}(h:ZC r0 r1 r2 r3 S=0):CardOk r0 r1 r2 r3 S:=by
 obtain⟨h1,h2,h3⟩:=Z0i h;have hr:(okN r0 999&&okN r1 999&&okN r2 999&&okN r3 999&&decide (r0<=r1))=true:=by
  unfold Z5y at h1;split at h1
  ·assumption
  ·cases h1
 simp only[okN,YG,XG] at hr;refine⟨hr.1.1.1.1.1,⟨hr.2,hr.1.1.1.2.2⟩,hr.1.1.2,hr.1.2,h2,λs hs=> ?_⟩;have:=h3 s hs;simp only[okS,okN,YG,XG] at this;exact⟨this.1.1.1,this.1.1.2,this.1.2,this.2⟩
def Zcu(r0 r1 l c d:Int):Int:=if c<=d then l+r0*(d - c) else l - r1*(c - d)
def Zc1(r0 r1 h c d:Int):Int:=if c<=d then h+r1*(d - c) else h - r0*(c - d)
def Z5c(r2 r3:Int)(s:Rs):Int:=s.wi*r2+s.li*r3
def spV(r0 r1 r2 r3:Int)(s:Rs)(d:Int):Int×Int:=(Zcu r0 r1 (s.m - Z5c r2 r3 s) s.a d,Zc1 r0 r1 (s.M+Z5c r2 r3 s) s.a d)
def Zdx(r0 r1 r2 r3:Int)(s:Rs)(d:Int):Int×Int:=
 if s.a<=d then(wrap64 ((Z68 r2 r3 s).1+wrap64 (r0*wrap64 (d - s.a))),wrap64 ((Z68 r2 r3 s).2+wrap64 (r1*wrap64 (d - s.a))))
 else(wrap64 ((Z68 r2 r3 s).1 - wrap64 (r1*wrap64 (s.a - d))),wrap64 ((Z68 r2 r3 s).2 - wrap64 (r0*wrap64 (s.a - d))))
theorem Z6a(n:Int)(h: -9223372036854775808<=n/\n<=9223372036854775807):wrap64 n=n:=by unfold wrap64;omega
theorem Z1A(h1:0<=x/\x<=a)(h2:0<=y/\y<=b):0<=x*y/\x*y<=a*b:=
 ⟨Int.mul_nonneg h1.1 h2.1,Int.mul_le_mul h1.2 h2.2 h2.1 (Int.le_trans h1.1 h1.2)⟩
section
variable {r0 r1 r2 r3:Int}{S:List Rs}(hc:CardOk r0 r1 r2 r3 S)
include hc
theorem Z7N{s:Rs}(hs:s∈S):0<=Z5c r2 r3 s/\Z5c r2 r3 s<=17982/\wrap64 (wrap64 (s.wi*r2)+wrap64 (s.li*r3))=Z5c r2 r3 s:=by
 obtain⟨_,_,h3,h4⟩:=hc.ok s hs;have a1:=Z1A h3 hc.h2;have a2:=Z1A h4 hc.h3;unfold Z5c;rw[Z6a (s.wi*r2) (by omega),Z6a (s.li*r3) (by omega),Z6a _ (by omega)];omega
theorem Zaw{s:Rs}(hs:s∈S):Z68 r2 r3 s=(s.m - Z5c r2 r3 s,s.M+Z5c r2 r3 s):=by
 obtain⟨h1,h2,h3⟩:=Z7N hc hs;have h4:=(hc.ok s hs).2.1;simp only[Z68,lo,hi,h3];rw[Z6a _ (by omega),Z6a _ (by omega)]
theorem Zax{s:Rs}(hs:s∈S){d:Int}(hd:0<=d/\d<=90):Zdx r0 r1 r2 r3 s d=spV r0 r1 r2 r3 s d:=by
 obtain⟨h1,h2,_⟩:=Z7N hc hs;obtain⟨h5,h4,_⟩:=hc.ok s hs;have e0:=hc.h0;have e1:=hc.h1;simp only[Zdx,spV,Zaw hc hs,Zcu,Zc1];by_cases Bl:s.a<=d
 ·rw[YZ Bl,YZ Bl,YZ Bl];have a1:=Z1A (x:=r0) (y:=d - s.a) (a:=999) (b:=90) (by omega) (by omega);have a2:=Z1A (x:=r1) (y:=d - s.a) (a:=999) (b:=90) (by omega) (by omega);rw[Z6a (d - s.a) (by omega),Z6a (r0*(d - s.a)) (by omega),Z6a (r1*(d - s.a)) (by omega),Z6a _ (by omega),Z6a _ (by omega)]
 ·rw[XA Bl,XA Bl,XA Bl];have a1:=Z1A (x:=r0) (y:=s.a - d) (a:=999) (b:=90) (by omega) (by omega);have a2:=Z1A (x:=r1) (y:=s.a - d) (a:=999) (b:=90) (by omega) (by omega);rw[Z6a (s.a - d) (by omega),Z6a (r0*(s.a - d)) (by omega),Z6a (r1*(s.a - d)) (by omega),Z6a _ (by omega),Z6a _ (by omega)]
omit hc in
theorem Zay{l r:Int}(hl: -1000000<=l/\l<=1000000)(hr:0<=r/\r<=999):∀n:Nat,n<=90->upI l r n=l+r*n
 |0,_=>by simp[upI]
 |n+1,hn=>by
  have a1:=Z1A (x:=r) (y:=(n:Int)) (a:=999) (b:=90) hr (by omega);rw[upI,Zay hl hr n (by omega),Z6a _ (by omega)];push_cast;rw[Int.mul_add];omega
omit hc in
theorem Zaz{l r:Int}(hl: -1000000<=l/\l<=1000000)(hr:0<=r/\r<=999):∀n:Nat,n<=90->dnI l r n=l - r*n
 |0,_=>by simp[dnI]
 |n+1,hn=>by
  have a1:=Z1A (x:=r) (y:=(n:Int)) (a:=999) (b:=90) hr (by omega);rw[dnI,Zaz hl hr n (by omega),Z6a _ (by omega)];push_cast;rw[Int.mul_add];omega
theorem Zeq{i:Nat}{s:Rs}(hs:S[i]? =some s){d:Nat}(hd:d<=90):cvS r0 r1 r2 r3 (S.map Ze) i d=spV r0 r1 r2 r3 s d:=by
 have hm:=YQ hs;obtain⟨h1,h2,_⟩:=Z7N hc hm;obtain⟨h5,h4,_⟩:=hc.ok s hm;have e0:=hc.h0;have e1:=hc.h1;have hw:=Zaw hc hm;simp only[Z68,SI] at hw;have ht:((s.a.toNat:Nat):Int)=s.a:=Int.toNat_of_nonneg h5.1;rw[cvS,List.getElem?_map,hs];simp only[XI,shL,shH,Ze,hw.1,hw.2,atC,spV,Zcu,Zc1];by_cases Bl:s.a.toNat<=d
 ·rw[YZ Bl,YZ (by omega),YZ (by omega),Zay (by omega) (by omega) _ (by omega),Zay (by omega) (by omega) _ (by omega)];rw[show((d - s.a.toNat:Nat):Int)=(d:Int) - s.a by omega]
 ·rw[XA Bl,XA (by omega),XA (by omega),Zaz (by omega) (by omega) _ (by omega),Zaz (by omega) (by omega) _ (by omega)];rw[show((s.a.toNat - d:Nat):Int)=s.a - (d:Int) by omega]
omit hc in
theorem Z7O{r0 r1 d:Int}(h0:0<=r0)(h1:r0<=r1)(Rl:d<=e):r0*(e - d)<=Zc1 r0 r1 h c e - Zc1 r0 r1 h c d/\Zc1 r0 r1 h c e - Zc1 r0 r1 h c d<=r1*(e - d):=by
 unfold Zc1;have k1:=TC h1 (show 0<=e - d by omega);by_cases a:c<=d
 ·rw[YZ (by omega),YZ a];rw[Int.mul_sub,Int.mul_sub] at k1;simp only[Int.mul_sub];omega
 ·by_cases b:c<=e
  ·have k2:=TC h1 (show 0<=e - c by omega);have k3:=TC h1 (show 0<=c - d by omega);rw[YZ b,XA a];simp only[Int.mul_sub] at k1 k2 k3⊢;omega
  ·rw[XA b,XA a];simp only[Int.mul_sub] at k1⊢;omega
theorem Zcv(s t:Rs)(d:Int):(spV r0 r1 r2 r3 s d).1 - (spV r0 r1 r2 r3 t d).2<=(spV r0 r1 r2 r3 s s.a).1 - (spV r0 r1 r2 r3 t s.a).2:=by
 simp only[spV];have e0:=hc.h0;have e1:=hc.h1.1;rcases Int.le_total s.a d with h|h
 ·have a1:=(Z7O (h:=t.M+Z5c r2 r3 t) (c:=t.a) e0 e1 h).1;have a2:Zcu r0 r1 (s.m - Z5c r2 r3 s) s.a d=s.m - Z5c r2 r3 s+r0*(d - s.a):=YZ h;have a3:Zcu r0 r1 (s.m - Z5c r2 r3 s) s.a s.a=s.m - Z5c r2 r3 s+r0*(s.a - s.a):=YZ (RE _);rw[Int.sub_self,Int.mul_zero] at a3;omega
 ·have a1:=(Z7O (h:=t.M+Z5c r2 r3 t) (c:=t.a) e0 e1 h).2;have a3:Zcu r0 r1 (s.m - Z5c r2 r3 s) s.a s.a=s.m - Z5c r2 r3 s+r0*(s.a - s.a):=YZ (RE _);rw[Int.sub_self,Int.mul_zero] at a3;by_cases hd:s.a<=d
  ·have:s.a=d:=by omega
   subst this;omega
  ·have a2:Zcu r0 r1 (s.m - Z5c r2 r3 s) s.a d=s.m - Z5c r2 r3 s - r1*(s.a - d):=XA hd;omega
theorem Zdy{s:Rs}(hs:s∈S){d:Int}(hd:0<=d/\d<=90): -1000000<=(spV r0 r1 r2 r3 s d).1/\(spV r0 r1 r2 r3 s d).1<=(spV r0 r1 r2 r3 s d).2/\(spV r0 r1 r2 r3 s d).2<=1000000:=by
 obtain⟨h1,h2,_⟩:=Z7N hc hs;obtain⟨h5,h4,_⟩:=hc.ok s hs;have e0:=hc.h0;have e1:=hc.h1;simp only[spV,Zcu,Zc1];by_cases Bl:s.a<=d
 ·have a1:=Z1A (x:=r0) (y:=d - s.a) (a:=999) (b:=90) (by omega) (by omega);have a2:=Z1A (x:=r1) (y:=d - s.a) (a:=999) (b:=90) (by omega) (by omega);have a3:=TC e1.1 (show 0<=d - s.a by omega);rw[YZ Bl,YZ Bl];omega
 ·have a1:=Z1A (x:=r0) (y:=s.a - d) (a:=999) (b:=90) (by omega) (by omega);have a2:=Z1A (x:=r1) (y:=s.a - d) (a:=999) (b:=90) (by omega) (by omega);have a3:=TC e1.1 (show 0<=s.a - d by omega);rw[XA Bl,XA Bl];omega
end
theorem has_all:(List.range 256).all (λk=>(List.range 8).all λi=>has (k:Int) i==k.testBit i)=true:=by kernel_rfl
theorem Z3Q{k i:Nat}(hk:k<256)(hi:i<8):has (k:Int) i=k.testBit i:=by
 have:=YL.1 (YL.1 has_all k (YU.2 hk)) i (YU.2 hi);simpa using this
theorem Zcw(C:Nat->Nat->Int×Int)(set:Int)(d:Nat)(x:Int):∀n,(atF C set d n).1<=x↔-1099511627776<=x/\∀i,i<n->has set i=true->(C i d).1<=x
 |0=>by simp[atF]
 |n+1=>by
  have ih:=Zcw C set d x n;rw[atF];by_cases h:has set n=true
  ·rw[YZ h];simp only[Int.max_le,ih];constructor
   ·rintro⟨⟨h1,h2⟩,h3⟩;refine⟨h1,λi hi hh=> ?_⟩;by_cases e:i=n
    ·subst e;exact h3
    ·exact h2 i (by omega) hh
   ·rintro⟨h1,h2⟩;exact⟨⟨h1,λi hi=>h2 i (by omega)⟩,h2 n (by omega) h⟩
  ·rw[XA h,ih];constructor
   ·rintro⟨h1,h2⟩;refine⟨h1,λi hi hh=> ?_⟩;by_cases e:i=n
    ·subst e;exact absurd hh h
    ·exact h2 i (by omega) hh
   ·rintro⟨h1,h2⟩;exact⟨h1,λi hi=>h2 i (by omega)⟩
theorem Zcx(C:Nat->Nat->Int×Int)(set:Int)(d:Nat)(x:Int):∀n,x<=(atF C set d n).2↔x<=1099511627776/\∀i,i<n->has set i=true->x<=(C i d).2
 |0=>by simp[atF]
 |n+1=>by
  have ih:=Zcx C set d x n;rw[atF];by_cases h:has set n=true
  ·rw[YZ h];simp only[Int.le_min,ih];constructor
   ·rintro⟨⟨h1,h2⟩,h3⟩;refine⟨h1,λi hi hh=> ?_⟩;by_cases e:i=n
    ·subst e;exact h3
    ·exact h2 i (by omega) hh
   ·rintro⟨h1,h2⟩;exact⟨⟨h1,λi hi=>h2 i (by omega)⟩,h2 n (by omega) h⟩
  ·rw[XA h,ih];constructor
   ·rintro⟨h1,h2⟩;refine⟨h1,λi hi hh=> ?_⟩;by_cases e:i=n
    ·subst e;exact absurd hh h
    ·exact h2 i (by omega) hh
   ·rintro⟨h1,h2⟩;exact⟨h1,λi hi=>h2 i (by omega)⟩
def ZaA(x y:Int×Int):Int×Int:=(max x.1 y.1,min x.2 y.2)
def Z6b(r0 r1 r2 r3:Int)(S:List Rs)(d:Int)(i:Int):Int×Int:=match S[i.toNat]? with
 |some s=>Zdx r0 r1 r2 r3 s d
 |none=>(0,0)
def Z57(r0 r1 r2 r3:Int)(S:List Rs)(d:Int):List Int->Int×Int
 |[]=>(0,0)
 |i::t=>t.foldl (λx j=>ZaA x (Z6b r0 r1 r2 r3 S d j)) (Z6b r0 r1 r2 r3 S d i)
theorem ZaB(f:Int->Int×Int)(x:Int):∀(t:List Int)(y:Int×Int),(t.foldl (λx j=>ZaA x (f j)) y).1<=x↔y.1<=x/\∀j∈t,(f j).1<=x
 |[],y=>by simp
 |j::t,y=>by
  rw[VM,ZaB f x t];simp only[ZaA,Int.max_le,YD,and_assoc]
theorem ZaC(f:Int->Int×Int)(x:Int):∀(t:List Int)(y:Int×Int),x<=(t.foldl (λx j=>ZaA x (f j)) y).2↔x<=y.2/\∀j∈t,x<=(f j).2
 |[],y=>by simp
 |j::t,y=>by
  rw[VM,ZaC f x t];simp only[ZaA,Int.le_min,YD,and_assoc]
theorem ZaD{r0 r1 r2 r3:Int}{S:List Rs}{d:Int}(hl:l≠[]):(Z57 r0 r1 r2 r3 S d l).1<=x↔∀j∈l,(Z6b r0 r1 r2 r3 S d j).1<=x:=by
 cases l with
 |nil=>exact absurd rfl hl
 |cons i t=>rw[Z57,ZaB,YD]
theorem Z6V{r0 r1 r2 r3:Int}{S:List Rs}{d:Int}(hl:l≠[]):x<=(Z57 r0 r1 r2 r3 S d l).2↔∀j∈l,x<=(Z6b r0 r1 r2 r3 S d j).2:=by
 cases l with
 |nil=>exact absurd rfl hl
 |cons i t=>rw[Z57,ZaC,YD]
theorem Zc2(h:∀x,a<=x↔b<=x):a=b:=Int.le_antisymm ((h b).2 (RE _)) ((h a).1 (RE _))
theorem Zc3(h:∀x,x<=a↔x<=b):a=b:=Int.le_antisymm ((h a).1 (RE _)) ((h b).2 (RE _))
def ZN(k:Nat):List Int:=(bl k).map fun(i:Nat)=>(i:Int)
theorem Zc4{k:Nat}:p∈ZN k↔∃i:Nat,i<8/\k.testBit i=true/\p=i:=by
 simp only[ZN,bl,VD,UP,YU];constructor
 ·rintro⟨i,⟨h1,h2⟩,rfl⟩;exact⟨i,h1,h2,rfl⟩
 ·rintro⟨i,h1,h2,rfl⟩;exact⟨i,⟨h1,h2⟩,rfl⟩
section
variable {r0 r1 r2 r3:Int}{S:List Rs}(hc:CardOk r0 r1 r2 r3 S)
include hc
omit hc in
theorem Z4l{k i:Nat}(hk:k<2 ^ n)(h:k.testBit i=true):i<n:=by
 rcases XY i n with h1|h1
 ·exact h1
 ·have:=Nat.testBit_lt_two_pow (YS hk (RO (by omega) h1));rw[this] at h;cases h
theorem ZaE{k:Nat}(hk:k<2 ^ S.length)(h0:ZN k≠[]){d:Nat}(hd:d<=90):atF (cvS r0 r1 r2 r3 (S.map Ze)) k d S.length=Z57 r0 r1 r2 r3 S d (ZN k):=by
 have Az:k<256:=YS hk (by have:=RO (n:=2) (by omega) hc.len;exact this);have key:∀i,i<S.length->k.testBit i=true->∃s,S[i]? =some s/\s∈S/\cvS r0 r1 r2 r3 (S.map Ze) i d=spV r0 r1 r2 r3 s d/\Z6b r0 r1 r2 r3 S d i=spV r0 r1 r2 r3 s d:=by
  intro i hi hb;obtain⟨s,hs⟩:∃s,S[i]? =some s:=⟨_,YH hi⟩;refine⟨s,hs,YQ hs,Zeq hc hs hd,?_⟩;simp only[Z6b,UF,hs];exact Zax hc (YQ hs) (by omega)
 have A1:=hc.len;obtain⟨p0,Do⟩:∃p,p∈ZN k:=List.exists_mem_of_ne_nil _ h0;obtain⟨i0,_,Cj,rfl⟩:=Zc4.1 Do;obtain⟨s0,_,Gb,he0,_⟩:=key i0 (Z4l hk Cj) Cj;have Ao:=Zdy hc Gb (d:=d) (by omega);refine Prod.ext (Zc2 λx=> ?_) (Zc3 λx=> ?_)
 ·rw[Zcw,ZaD h0];constructor
  ·rintro⟨_,h⟩ j hj;obtain⟨i,hi8,hi,rfl⟩:=Zc4.1 hj;have A3:=Z4l hk hi;obtain⟨s,_,_,e1,e2⟩:=key i A3 hi;rw[e2,<-e1];exact h i A3 (by rw[Z3Q Az (by omega)];exact hi)
  ·intro h;constructor
   ·have:=h _ Do;obtain⟨s,_,hs,_,e2⟩:=key i0 (Z4l hk Cj) Cj;rw[e2] at this;have:=Zdy hc hs (d:=d) (by omega);omega
   ·intro i hi hh;rw[Z3Q Az (by omega)] at hh;obtain⟨s,_,_,e1,e2⟩:=key i hi hh;rw[e1,<-e2];exact h i (Zc4.2 ⟨i,by omega,hh,rfl⟩)
 ·rw[Zcx,Z6V h0];constructor
  ·rintro⟨_,h⟩ j hj;obtain⟨i,hi8,hi,rfl⟩:=Zc4.1 hj;have A3:=Z4l hk hi;obtain⟨s,_,_,e1,e2⟩:=key i A3 hi;rw[e2,<-e1];exact h i A3 (by rw[Z3Q Az (by omega)];exact hi)
  ·intro h;constructor
   ·have:=h _ Do;obtain⟨s,_,hs,_,e2⟩:=key i0 (Z4l hk Cj) Cj;rw[e2] at this;have:=Zdy hc hs (d:=d) (by omega);omega
   ·intro i hi hh;rw[Z3Q Az (by omega)] at hh;obtain⟨s,_,_,e1,e2⟩:=key i hi hh;rw[e1,<-e2];exact h i (Zc4.2 ⟨i,by omega,hh,rfl⟩)
def Z20(r0 r1 r2 r3:Int)(S:List Rs)(l:List Int):Bool:=l.all λi=>match S[i.toNat]? with
 |some s=>decide ((Z57 r0 r1 r2 r3 S s.a l).1<=(Z57 r0 r1 r2 r3 S s.a l).2)
 |none=>false
def Z6W(r0 r1 r2 r3:Int)(s t:Rs):Prop:=(spV r0 r1 r2 r3 s s.a).1<=(spV r0 r1 r2 r3 t s.a).2
theorem Z58(hl:∀p∈l,0<=p/\p<S.length)(h0:l≠[]){d:Int}(hd:0<=d/\d<=90):(Z57 r0 r1 r2 r3 S d l).1<=(Z57 r0 r1 r2 r3 S d l).2↔∀i∈l,∀j∈l,∀s t,S[i.toNat]? =some s->S[j.toNat]? =some t->(spV r0 r1 r2 r3 s d).1<=(spV r0 r1 r2 r3 t d).2:=by
 have key:∀i s,S[i.toNat]? =some s->Z6b r0 r1 r2 r3 S d i=spV r0 r1 r2 r3 s d:=by
  intro i s hs;simp only[Z6b,hs];exact Zax hc (YQ hs) hd
 rw[ZaD h0];constructor
 ·intro h i hi j hj s t hs ht;have:=h i hi;rw[Z6V h0] at this;have:=this j hj;rw[key i s hs,key j t ht] at this;exact this
 ·intro h i hi;rw[Z6V h0];intro j hj;have Fw:=hl i hi;have Lh:=hl j hj;obtain⟨s,hs⟩:∃s,S[i.toNat]? =some s:=⟨_,YH (by omega)⟩;obtain⟨t,ht⟩:∃s,S[j.toNat]? =some s:=⟨_,YH (by omega)⟩;rw[key i s hs,key j t ht];exact h i hi j hj s t hs ht
theorem Z8D(hl:∀p∈l,0<=p/\p<S.length):Z20 r0 r1 r2 r3 S l=true↔∀i∈l,∀j∈l,∀s t,S[i.toNat]? =some s->S[j.toNat]? =some t->Z6W r0 r1 r2 r3 s t:=by
 unfold Z20 Z6W;rw[YL];constructor
 ·intro h i hi j hj s t hs ht;have h1:=h i hi;rw[hs] at h1;simp only[XG] at h1;rw[Z58 hc hl (List.ne_nil_of_mem hi) ((hc.ok s (YQ hs)).1)] at h1;exact h1 i hi j hj s t hs ht
 ·intro h i hi;have Fw:=hl i hi;obtain⟨s,hs⟩:∃s,S[i.toNat]? =some s:=⟨_,YH (by omega)⟩;rw[hs];simp only[XG];rw[Z58 hc hl (List.ne_nil_of_mem hi) ((hc.ok s (YQ hs)).1)];intro i' hi' j hj s' t hs' ht;have h1:=h i' hi' j hj s' t hs' ht;have h2:=Zcv hc s' t s.a;omega
theorem Z6X{k:Nat}(hk:k<2 ^ S.length):Zz (cvS r0 r1 r2 r3 (S.map Ze)) k S.length=Z20 r0 r1 r2 r3 S (ZN k):=by
 have A1:=hc.len;have hl:∀p∈ZN k,0<=p/\p<S.length:=by
  intro p hp;obtain⟨i,_,hi,rfl⟩:=Zc4.1 hp;have:=Z4l hk hi;omega
 by_cases h0:ZN k=[]
 ·rw[h0];have hz:∀i,i<8->k.testBit i=false:=by
   intro i hi;cases hb:k.testBit i with
   |false=>rfl
   |true=>
    have:(i:Int)∈ZN k:=Zc4.2 ⟨i,hi,hb,rfl⟩;rw[h0] at this;cases this
  have Az:k<256:=YS hk (by have:=RO (n:=2) (by omega) hc.len;exact this);have hat:∀d n,n<=8->atF (cvS r0 r1 r2 r3 (S.map Ze)) k d n=(-1099511627776,1099511627776):=by
   intro d n
   induction n with
   |zero=>intro _;rfl
   |succ n ih=>
    intro hn;rw[atF,Z3Q Az (by omega),hz n (by omega),XA (by decide),ih (by omega)]
  rw[Zz,Z22,show Z20 r0 r1 r2 r3 S []=true from rfl,YL];intro d _;rw[hat d _ A1];decide
 ·rw[TQ,Z8D hc hl,Zz,Z22,YL];constructor
  ·intro h i hi j hj s t hs ht;have Tx:=(hc.ok s (YQ hs)).1;have h1:=h s.a.toNat (YU.2 (by omega));simp only[XG] at h1;rw[ZaE hc hk h0 (by omega),Int.toNat_of_nonneg Tx.1,Z58 hc hl h0 Tx] at h1;exact h1 i hi j hj s t hs ht
  ·intro h d hd;have Eh:=YU.1 hd;simp only[XG];rw[ZaE hc hk h0 (by omega),Z58 hc hl h0 (by omega)];intro i hi j hj s t hs ht;have h1:=h i hi j hj s t hs ht;unfold Z6W at h1;have h2:=Zcv hc s t d;omega
end
end Go.Proofs.Tryq
