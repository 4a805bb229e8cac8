import Derived.Test.YtedkbdkbbnemlaaGreatDoorNk29
set_option linter.all false
namespace Go.Proofs.Tryq
set_option maxRecDepth 100000
set_option maxHeartbeats 4000000
open Go Go.Nk Go.RowKit
theorem ZdG{x y:Sf}(h:nmL x=nmL y):x.nm=y.nm:=by
 have h2:x.nm.data=y.nm.data:=Array.toList_inj.1 h;cases hx:x.nm;cases hy:y.nm;rw[hx,hy] at h2;simp at h2;rw[h2]
theorem Z71{s t:ByteArray}(h:s.toList=t.toList):s=t:=by
 rw[ByteArray.toList_eq,ByteArray.toList_eq] at h;cases s;cases t;simp at h;rw[h]
theorem Z1P(a b c m:Int)(base:Option Addr)(n cap:Nat)(L:List Sf)(w:World)(A2:L.length=n)(Ta:n<=1000000)(hS:RawA w base L):
 Calls prog 26 #[.agg #[.int .i64 a,.int .i64 b,.int .i64 c,.int .i64 m,.slice base n cap]] w fun e w'=>e= .returned (.int .i64 (Zp a b c m L))/\Ext w w':=by
 have hr:∀n hi w,Calls prog 93 #[.int .i64 n,.int .i64 0,.int .i64 hi] w fun e w'=>e= .returned (.bool (okA n hi))/\w'=w:=fun n hi w=>Z4r n 0 hi w
 have E6:=fun w=>hr a 9999 w;have Dw:=fun w=>hr b 9999 w;have Gu:=fun w=>hr c 9999 w;have Ln:=fun w=>Z4r m 2 4 w
 clear hr;by_cases hR:Z2J a b c m=0
 ·have I8:okA a 9999=true/\okA b 9999=true/\okA c 9999=true/\decide (2<=m/\m<=4)=true:=by
   unfold Z2J at hR;split at hR
   ·rename_i h;simp only[Bool.and_eq_true] at h;exact⟨h.1.1.1,h.1.1.2,h.1.2,h.2⟩
   ·cases hR
  simp only[I8.1] at E6;simp only[I8.2.1] at Dw;simp only[I8.2.2.1] at Gu;simp only[I8.2.2.2] at Ln;have hF:Hid (Zp a b c m L=Zj L):=by
   show _=_;rw[Zp,firstV,if_pos hR];simp only[firstV];split
   ·rename_i h;exact h.symm
   ·rfl
  clear hR I8;by_cases h9:9<L.length
  ·have H:Hid (Zp a b c m L=2):=by show _=_;rw[hF.out,Zj,if_pos h9]
   have E4:(9:Int)<(n:Int):=by omega
   clear h9 hF;go_enter func26,ntmps26
   go_wp2_with (first
    |(go_at_call 93;(with_reducible refine(E6 _).mono ?_);rintro e w2 ⟨rfl,rfl⟩)
    |(go_at_call 93;(with_reducible refine(Dw _).mono ?_);rintro e w2 ⟨rfl,rfl⟩)
    |(go_at_call 93;(with_reducible refine(Gu _).mono ?_);rintro e w2 ⟨rfl,rfl⟩)
    |(go_at_call 93;(with_reducible refine(Ln _).mono ?_);rintro e w2 ⟨rfl,rfl⟩))
   go_ret;exact⟨ZK (a:=2) H.out.symm,((Ext.rfl' w).alloc _).alloc _⟩
  ·have H:Hid (Zp a b c m L=shA ((L.take 0).map nmL) (L.drop 0)):=by show _=_;rw[hF.out,Zj,if_neg h9];rfl
   have E4:(n:Int)<=9:=by omega
   clear h9 hF;go_enter func26,ntmps26
   go_wp2_with (first
    |(go_at_call 93;(with_reducible refine(E6 _).mono ?_);rintro e w2 ⟨rfl,rfl⟩)
    |(go_at_call 93;(with_reducible refine(Dw _).mono ?_);rintro e w2 ⟨rfl,rfl⟩)
    |(go_at_call 93;(with_reducible refine(Gu _).mono ?_);rintro e w2 ⟨rfl,rfl⟩)
    |(go_at_call 93;(with_reducible refine(Ln _).mono ?_);rintro e w2 ⟨rfl,rfl⟩))
   clear E6 Dw Gu Ln;have Bg:=((Ext.rfl' w).alloc (.cells #[.int .i64 a,.int .i64 b,.int .i64 c,.int .i64 m,.slice base n cap] 26)).alloc (.cells #[.int .i64 a,.int .i64 b,.int .i64 c,.int .i64 m] 23);go_loopw [4] (fun v wr=>∃i:Nat,i<=n/\v= .int .i64 i/\wr.heap[w.heap.size]? =some (.cells #[.int .i64 a,.int .i64 b,.int .i64 c,.int .i64 m,.slice base n cap] 26)/\Ext w wr/\Hid (Zp a b c m L=shA ((L.take i).map nmL) (L.drop i))) (fun v _=>n - (intOf v).toNat)
   case atStart=>exact⟨0,Nat.zero_le _,rfl,by simp only[Z3,Z2];rw[if_neg (by omega),if_pos trivial],Bg,H⟩
   case round=>
    obtain⟨i,hi,rfl,hr,hE,hH⟩:=hrel;clear Bg H;have q4:=Z0 hr 4;simp only[List.getElem?_toArray,List.getElem?_cons_zero,List.getElem?_cons_succ] at q4;have hlr:=Z5 hr;by_cases As:i=n
    ·subst As;have hz:Hid (Zp a b c m L=0):=(by show _=_;rw[hH.out,<-A2,List.drop_length];rfl);clear hH;go_wp2;go_ret;exact⟨ZK (a:=0) hz.out.symm,hE⟩
    ·have A3:i<n:=(by omega);obtain⟨x,hx⟩:∃x,L[i]? =some x:=⟨_,List.getElem?_eq_getElem (by omega)⟩;have Ac:Hid (Zp a b c m L=if Z2d x.nm=false then 4 else if nmL x∈(L.take i).map nmL then 5 else if Z8b x=false then 1 else shA ((L.take (i+1)).map nmL) (L.drop (i+1))):=by
      show _=_;rw[hH.out,Z0b hx,shA,Z0G hx,List.map_append];rfl
     have Es:=hS.ext hE;obtain⟨b',off,rfl,hb,⟨k0,k1,k2,k3,k4,k5,k6⟩,Po⟩:=Es i x hx;have Fe:=fun w=>Z70 x.nm w Po
     have Cf:(0:Int)<=(i:Int):=(by omega);cases hnb:Z2d x.nm
     ·have Aw:Hid (Zp a b c m L=4):=(by show _=_;rw[Ac.out,if_pos hnb]);rw[hnb] at Fe;clear hnb Ac hH hx
      go_wp2_with (first
       |(go_at_call 94;refine(Fe _).mono ?_;rintro e w2 ⟨rfl,rfl⟩))
      go_ret;exact⟨ZK (a:=4) Aw.out.symm,hE.alloc _⟩
     ·rw[hnb] at Fe;have Hn:Hid (Zp a b c m L=if nmL x∈(L.take i).map nmL then 5 else if Z8b x=false then 1 else shA ((L.take (i+1)).map nmL) (L.drop (i+1))):=(by show _=_;rw[Ac.out,if_neg (by rw[hnb];simp)]);clear Ac hH hnb
      go_wp2_with (first
       |(go_at_call 94;refine(Fe _).mono ?_;rintro e w2 ⟨rfl,Ef⟩;subst Ef))
      have B6:=hE.alloc (.cells #[.string x.nm,.int .i64 x.a0,.int .i64 x.a1,.int .i64 x.b0,.int .i64 x.b1,.int .i64 x.c0,.int .i64 x.c1] 51);have hB5:(wr.alloc (.cells #[.string x.nm,.int .i64 x.a0,.int .i64 x.a1,.int .i64 x.b0,.int .i64 x.b1,.int .i64 x.c0,.int .i64 x.c1] 51)).heap[wr.heap.size]? =some (.cells #[.string x.nm,.int .i64 x.a0,.int .i64 x.a1,.int .i64 x.b0,.int .i64 x.b1,.int .i64 x.c0,.int .i64 x.c1] 51):=(by rw[Z3,if_pos rfl]);have hr5:=((Ext.rfl' wr).alloc (.cells #[.string x.nm,.int .i64 x.a0,.int .i64 x.a1,.int .i64 x.b0,.int .i64 x.b1,.int .i64 x.c0,.int .i64 x.c1] 51)).get hr;have HN:Hid (nmL x∈(L.take i).map nmL↔nmL x∈((L.take i).drop 0).map nmL):=Iff.rfl;clear Fe k0 k1 k2 k3 k4 k5 k6 hr q4;have Hl:=Es.ext ((Ext.rfl' wr).alloc (.cells #[.string x.nm,.int .i64 x.a0,.int .i64 x.a1,.int .i64 x.b0,.int .i64 x.b1,.int .i64 x.c0,.int .i64 x.c1] 51));generalize World.alloc wr _=V at Hl B6 hB5 hr5⊢;obtain⟨wo,rfl⟩:∃wo:World,wo=wr:=⟨_,rfl⟩;go_loopw [6] (fun v wi=>∃k:Nat,k<=i/\v= .int .i64 k/\Ext V wi/\Hid (nmL x∈(L.take i).map nmL↔nmL x∈((L.take i).drop k).map nmL)) (fun v _=>i - (intOf v).toNat)
      case atStart=>exact⟨0,Nat.zero_le _,rfl,Ext.rfl' V,HN⟩
      case round=>
       obtain⟨k,hk,rfl,Qf,Qg⟩:=hrel;clear HN;have hrk:=Qf.get hr5;have Ms:=Qf.get hB5;have q4:=Z0 hrk 4;simp only[List.getElem?_toArray,List.getElem?_cons_zero,List.getElem?_cons_succ] at q4;by_cases Fi:k=i
       ·subst Fi;have Ku:¬nmL x∈(L.take k).map nmL:=(by rw[Qg.out,List.drop_of_length_le (by rw[List.length_take];omega)];simp);have Fs:Hid (Zp a b c m L=if Z8b x=false then 1 else shA ((L.take (k+1)).map nmL) (L.drop (k+1))):=(by show _=_;rw[Hn.out,if_neg Ku]);have y1:=Z0 Ms 1;have y2:=Z0 Ms 2;have y3:=Z0 Ms 3;have y4:=Z0 Ms 4;have y5:=Z0 Ms 5;have y6:=Z0 Ms 6;simp only[List.getElem?_toArray,List.getElem?_cons_zero,List.getElem?_cons_succ] at y1 y2 y3 y4 y5 y6;have Hd:∀w,Calls prog 95 #[.agg #[.int .i64 x.a0,.int .i64 x.a1],.int .i64 0,.int .i64 9999] w fun e w'=>e= .returned (.bool (ZF (spA x 0)))/\Ext w w':=fun w=>Z2e x.a0 x.a1 0 9999 w
        have Fg:∀w,Calls prog 95 #[.agg #[.int .i64 x.b0,.int .i64 x.b1],.int .i64 0,.int .i64 9999] w fun e w'=>e= .returned (.bool (ZF (spA x 1)))/\Ext w w':=fun w=>Z2e x.b0 x.b1 0 9999 w
        have N8:∀w,Calls prog 95 #[.agg #[.int .i64 x.c0,.int .i64 x.c1],.int .i64 0,.int .i64 9999] w fun e w'=>e= .returned (.bool (ZF (spA x 2)))/\Ext w w':=fun w=>Z2e x.c0 x.c1 0 9999 w
        have Bl:Z8b x=(ZF (spA x 0)&&ZF (spA x 1)&&ZF (spA x 2)):=rfl;have D4:=B6.trans Qf;have Am:=Ms;have Dq:=hrk;clear Hn Qg Ku hx hB5 Qf;cases h1:ZF (spA x 0) with
        |false=>
         simp only[h1] at Hd;have Aw:Hid (Zp a b c m L=1):=(by show _=_;rw[Fs.out,if_pos (by rw[Bl,h1];simp)]);clear Fs Bl
         go_wp2_with (first
          |(go_at_call 95;(with_reducible refine(Hd _).mono ?_);rintro e w2 ⟨rfl,A5⟩;replace D4:=D4.trans A5;replace Am:=A5.get Am;replace Dq:=A5.get Dq;clear A5 y1 y2 y3 y4 y5 y6;have y1:=Z0 Am 1;have y2:=Z0 Am 2;have y3:=Z0 Am 3;have y4:=Z0 Am 4;have y5:=Z0 Am 5;have y6:=Z0 Am 6;simp only[List.getElem?_toArray,List.getElem?_cons_zero,List.getElem?_cons_succ] at y1 y2 y3 y4 y5 y6)
          |(go_at_call 95;(with_reducible refine(Fg _).mono ?_);rintro e w2 ⟨rfl,A5⟩;replace D4:=D4.trans A5;replace Am:=A5.get Am;replace Dq:=A5.get Dq;clear A5 y1 y2 y3 y4 y5 y6;have y1:=Z0 Am 1;have y2:=Z0 Am 2;have y3:=Z0 Am 3;have y4:=Z0 Am 4;have y5:=Z0 Am 5;have y6:=Z0 Am 6;simp only[List.getElem?_toArray,List.getElem?_cons_zero,List.getElem?_cons_succ] at y1 y2 y3 y4 y5 y6)
          |(go_at_call 95;(with_reducible refine(N8 _).mono ?_);rintro e w2 ⟨rfl,A5⟩;replace D4:=D4.trans A5;replace Am:=A5.get Am;replace Dq:=A5.get Dq;clear A5 y1 y2 y3 y4 y5 y6;have y1:=Z0 Am 1;have y2:=Z0 Am 2;have y3:=Z0 Am 3;have y4:=Z0 Am 4;have y5:=Z0 Am 5;have y6:=Z0 Am 6;simp only[List.getElem?_toArray,List.getElem?_cons_zero,List.getElem?_cons_succ] at y1 y2 y3 y4 y5 y6))
         go_ret;exact⟨ZK (a:=1) Aw.out.symm,D4⟩
        |true=>
         simp only[h1] at Hd;cases h2:ZF (spA x 1) with
         |false=>
          simp only[h2] at Fg;have Aw:Hid (Zp a b c m L=1):=(by show _=_;rw[Fs.out,if_pos (by rw[Bl,h1,h2];simp)]);clear Fs Bl
          go_wp2_with (first
           |(go_at_call 95;(with_reducible refine(Hd _).mono ?_);rintro e w2 ⟨rfl,A5⟩;replace D4:=D4.trans A5;replace Am:=A5.get Am;replace Dq:=A5.get Dq;clear A5 y1 y2 y3 y4 y5 y6;have y1:=Z0 Am 1;have y2:=Z0 Am 2;have y3:=Z0 Am 3;have y4:=Z0 Am 4;have y5:=Z0 Am 5;have y6:=Z0 Am 6;simp only[List.getElem?_toArray,List.getElem?_cons_zero,List.getElem?_cons_succ] at y1 y2 y3 y4 y5 y6)
           |(go_at_call 95;(with_reducible refine(Fg _).mono ?_);rintro e w2 ⟨rfl,A5⟩;replace D4:=D4.trans A5;replace Am:=A5.get Am;replace Dq:=A5.get Dq;clear A5 y1 y2 y3 y4 y5 y6;have y1:=Z0 Am 1;have y2:=Z0 Am 2;have y3:=Z0 Am 3;have y4:=Z0 Am 4;have y5:=Z0 Am 5;have y6:=Z0 Am 6;simp only[List.getElem?_toArray,List.getElem?_cons_zero,List.getElem?_cons_succ] at y1 y2 y3 y4 y5 y6)
           |(go_at_call 95;(with_reducible refine(N8 _).mono ?_);rintro e w2 ⟨rfl,A5⟩;replace D4:=D4.trans A5;replace Am:=A5.get Am;replace Dq:=A5.get Dq;clear A5 y1 y2 y3 y4 y5 y6;have y1:=Z0 Am 1;have y2:=Z0 Am 2;have y3:=Z0 Am 3;have y4:=Z0 Am 4;have y5:=Z0 Am 5;have y6:=Z0 Am 6;simp only[List.getElem?_toArray,List.getElem?_cons_zero,List.getElem?_cons_succ] at y1 y2 y3 y4 y5 y6))
          go_ret;exact⟨ZK (a:=1) Aw.out.symm,D4⟩
         |true=>
          simp only[h2] at Fg;cases h3:ZF (spA x 2) with
          |false=>
           simp only[h3] at N8;have Aw:Hid (Zp a b c m L=1):=(by show _=_;rw[Fs.out,if_pos (by rw[Bl,h1,h2,h3];simp)]);clear Fs Bl
           go_wp2_with (first
            |(go_at_call 95;(with_reducible refine(Hd _).mono ?_);rintro e w2 ⟨rfl,A5⟩;replace D4:=D4.trans A5;replace Am:=A5.get Am;replace Dq:=A5.get Dq;clear A5 y1 y2 y3 y4 y5 y6;have y1:=Z0 Am 1;have y2:=Z0 Am 2;have y3:=Z0 Am 3;have y4:=Z0 Am 4;have y5:=Z0 Am 5;have y6:=Z0 Am 6;simp only[List.getElem?_toArray,List.getElem?_cons_zero,List.getElem?_cons_succ] at y1 y2 y3 y4 y5 y6)
            |(go_at_call 95;(with_reducible refine(Fg _).mono ?_);rintro e w2 ⟨rfl,A5⟩;replace D4:=D4.trans A5;replace Am:=A5.get Am;replace Dq:=A5.get Dq;clear A5 y1 y2 y3 y4 y5 y6;have y1:=Z0 Am 1;have y2:=Z0 Am 2;have y3:=Z0 Am 3;have y4:=Z0 Am 4;have y5:=Z0 Am 5;have y6:=Z0 Am 6;simp only[List.getElem?_toArray,List.getElem?_cons_zero,List.getElem?_cons_succ] at y1 y2 y3 y4 y5 y6)
            |(go_at_call 95;(with_reducible refine(N8 _).mono ?_);rintro e w2 ⟨rfl,A5⟩;replace D4:=D4.trans A5;replace Am:=A5.get Am;replace Dq:=A5.get Dq;clear A5 y1 y2 y3 y4 y5 y6;have y1:=Z0 Am 1;have y2:=Z0 Am 2;have y3:=Z0 Am 3;have y4:=Z0 Am 4;have y5:=Z0 Am 5;have y6:=Z0 Am 6;simp only[List.getElem?_toArray,List.getElem?_cons_zero,List.getElem?_cons_succ] at y1 y2 y3 y4 y5 y6))
           go_ret;exact⟨ZK (a:=1) Aw.out.symm,D4⟩
          |true=>
           simp only[h3] at N8;have Aw:Hid (Zp a b c m L=shA ((L.take (k+1)).map nmL) (L.drop (k+1))):=(by show _=_;rw[Fs.out,if_neg (by rw[Bl,h1,h2,h3];simp)]);clear Fs Bl
           go_wp2_with (first
            |(go_at_call 95;(with_reducible refine(Hd _).mono ?_);rintro e w2 ⟨rfl,A5⟩;replace D4:=D4.trans A5;replace Am:=A5.get Am;replace Dq:=A5.get Dq;clear A5 y1 y2 y3 y4 y5 y6;have y1:=Z0 Am 1;have y2:=Z0 Am 2;have y3:=Z0 Am 3;have y4:=Z0 Am 4;have y5:=Z0 Am 5;have y6:=Z0 Am 6;simp only[List.getElem?_toArray,List.getElem?_cons_zero,List.getElem?_cons_succ] at y1 y2 y3 y4 y5 y6)
            |(go_at_call 95;(with_reducible refine(Fg _).mono ?_);rintro e w2 ⟨rfl,A5⟩;replace D4:=D4.trans A5;replace Am:=A5.get Am;replace Dq:=A5.get Dq;clear A5 y1 y2 y3 y4 y5 y6;have y1:=Z0 Am 1;have y2:=Z0 Am 2;have y3:=Z0 Am 3;have y4:=Z0 Am 4;have y5:=Z0 Am 5;have y6:=Z0 Am 6;simp only[List.getElem?_toArray,List.getElem?_cons_zero,List.getElem?_cons_succ] at y1 y2 y3 y4 y5 y6)
            |(go_at_call 95;(with_reducible refine(N8 _).mono ?_);rintro e w2 ⟨rfl,A5⟩;replace D4:=D4.trans A5;replace Am:=A5.get Am;replace Dq:=A5.get Dq;clear A5 y1 y2 y3 y4 y5 y6;have y1:=Z0 Am 1;have y2:=Z0 Am 2;have y3:=Z0 Am 3;have y4:=Z0 Am 4;have y5:=Z0 Am 5;have y6:=Z0 Am 6;simp only[List.getElem?_toArray,List.getElem?_cons_zero,List.getElem?_cons_succ] at y1 y2 y3 y4 y5 y6))
           exact⟨⟨k+1,by omega,by push_cast;rfl,Dq,D4,Aw⟩,by simp[intOf];omega⟩
       ·have hklt:k<i:=(by omega);obtain⟨y,hy⟩:∃y,L[k]? =some y:=⟨_,List.getElem?_eq_getElem (by omega)⟩;obtain⟨b2,off2,Fu,Ao,hky,hnmy⟩:=(Hl.ext Qf) k y hy;obtain⟨rfl,rfl⟩:b'=b2/\off=off2:=(by simpa using Fu);have Ba:=hky.1;have Bf:=Z0 Ms 0;simp only[List.getElem?_toArray,List.getElem?_cons_zero] at Bf;have Cn:¬n<=k:=(by omega);have F3:nmL x∈((L.take i).drop k).map nmL↔nmL x=nmL y\/nmL x∈((L.take i).drop (k+1)).map nmL:=by
         have hty:(L.take i)[k]? =some y:=(by rw[List.getElem?_take,if_pos hklt];exact hy);rw[Z0b hty,List.map_cons,List.mem_cons]
        go_wp2_with fail
        have gz0:=Zet q4;have gz1:=Zet Ba;have gz2:=Zet Bf;refine ZeG 9 (by kernel_rfl) ?_;refine ZeB [0,1,2,3,4,5,6,7,8] (by kernel_rfl) (by kernel_rfl) ?_;simp only[ZeD,List.getElem?_cons_succ,List.getElem?_cons_zero,List.cons_append,List.nil_append]
        repeat (go_big_quiet_step (fail))
        refine wpQuiet_nil ?_;refine Zf6 (by kernel_rfl) (fun W hW=> ?_);have B4:=hW;clear gz0 gz1 gz2;have U4:=Qf.trans B4;by_cases Ce:nmL x=nmL y
        ·have he:(y.nm.toList==x.nm.toList)=true:=(by simp[ZdG Ce]);have Aw:Hid (Zp a b c m L=5):=(by show _=_;rw[Hn.out,if_pos (Qg.out.2 (F3.2 (.inl Ce)))]);rw[he];clear he Hn Qg F3;go_wp2;go_ret;exact⟨ZK (a:=5) Aw.out.symm,B6.trans U4⟩
        ·have he:(y.nm.toList==x.nm.toList)=false:=by
          rw[beq_eq_false_iff_ne];intro h;exact Ce (by rw[nmL,nmL,(Z71 h).symm])
         have J3:Hid (nmL x∈(L.take i).map nmL↔nmL x∈((L.take i).drop (k+1)).map nmL):=(by show _↔_;rw[Qg.out,F3];simp[Ce]);rw[he];clear he Qg F3;go_wp2;go_roundw
         case rel=>exact⟨k+1,by omega,by push_cast;rfl,U4,J3⟩
         case measure=>simp[intOf];omega
 ·have Pf:Z2J a b c m=1:=by
   unfold Z2J at hR⊢;split at hR
   ·exact absurd rfl hR
   ·rw[if_neg (by assumption)]
  have hF:Hid (Zp a b c m L=1):=by show _=_;rw[Zp,firstV,if_neg hR,Pf]
  have I8:(okA a 9999&&okA b 9999&&okA c 9999&&decide (2<=m/\m<=4))=false:=by
   unfold Z2J at hR;split at hR
   ·exact absurd rfl hR
   ·rename_i h;simpa using h
  clear hR Pf;cases h1:okA a 9999 with
  |false=>
   simp only[h1] at E6;clear I8 h1;go_enter func26,ntmps26
   go_wp2_with (first
    |(go_at_call 93;(with_reducible refine(E6 _).mono ?_);rintro e w2 ⟨rfl,rfl⟩)
    |(go_at_call 93;(with_reducible refine(Dw _).mono ?_);rintro e w2 ⟨rfl,rfl⟩)
    |(go_at_call 93;(with_reducible refine(Gu _).mono ?_);rintro e w2 ⟨rfl,rfl⟩)
    |(go_at_call 93;(with_reducible refine(Ln _).mono ?_);rintro e w2 ⟨rfl,rfl⟩))
   go_ret;exact⟨ZK (a:=1) hF.out.symm,((Ext.rfl' w).alloc _).alloc _⟩
  |true=>
   simp only[h1] at E6;cases h2:okA b 9999 with
   |false=>
    simp only[h2] at Dw;clear I8 h1 h2;go_enter func26,ntmps26
    go_wp2_with (first
     |(go_at_call 93;(with_reducible refine(E6 _).mono ?_);rintro e w2 ⟨rfl,rfl⟩)
     |(go_at_call 93;(with_reducible refine(Dw _).mono ?_);rintro e w2 ⟨rfl,rfl⟩)
     |(go_at_call 93;(with_reducible refine(Gu _).mono ?_);rintro e w2 ⟨rfl,rfl⟩)
     |(go_at_call 93;(with_reducible refine(Ln _).mono ?_);rintro e w2 ⟨rfl,rfl⟩))
    go_ret;exact⟨ZK (a:=1) hF.out.symm,((Ext.rfl' w).alloc _).alloc _⟩
   |true=>
    simp only[h2] at Dw;cases h3:okA c 9999 with
    |false=>
     simp only[h3] at Gu;clear I8 h1 h2 h3;go_enter func26,ntmps26
     go_wp2_with (first
      |(go_at_call 93;(with_reducible refine(E6 _).mono ?_);rintro e w2 ⟨rfl,rfl⟩)
      |(go_at_call 93;(with_reducible refine(Dw _).mono ?_);rintro e w2 ⟨rfl,rfl⟩)
      |(go_at_call 93;(with_reducible refine(Gu _).mono ?_);rintro e w2 ⟨rfl,rfl⟩)
      |(go_at_call 93;(with_reducible refine(Ln _).mono ?_);rintro e w2 ⟨rfl,rfl⟩))
     go_ret;exact⟨ZK (a:=1) hF.out.symm,((Ext.rfl' w).alloc _).alloc _⟩
    |true=>
     simp only[h3] at Gu;have h4:decide (2<=m/\m<=4)=false:=(by rw[h1,h2,h3] at I8;simpa using I8);simp only[h4] at Ln;clear I8 h1 h2 h3 h4;go_enter func26,ntmps26
     go_wp2_with (first
      |(go_at_call 93;(with_reducible refine(E6 _).mono ?_);rintro e w2 ⟨rfl,rfl⟩)
      |(go_at_call 93;(with_reducible refine(Dw _).mono ?_);rintro e w2 ⟨rfl,rfl⟩)
      |(go_at_call 93;(with_reducible refine(Gu _).mono ?_);rintro e w2 ⟨rfl,rfl⟩)
      |(go_at_call 93;(with_reducible refine(Ln _).mono ?_);rintro e w2 ⟨rfl,rfl⟩))
     go_ret;exact⟨ZK (a:=1) hF.out.symm,((Ext.rfl' w).alloc _).alloc _⟩
end Go.Proofs.Tryq
namespace Go.Proofs.Tryq
open Go Go.Nk Go.RowKit
set_option linter.all false
theorem Zib{P:Program}{ops:Array Oper}{R:Exit->Act->World->Prop}{t:Nat}{l:List Nat}(k:Nat){o:Oper}{v:Value}{a:Act}{w:World}{f:FuncId}{args:Array Value}(hs:okT ops t=true)(hi:ops[k]? =some o)(hf:Zil ops t l k=true)(hw:Region.wanted o (yielded ops a.tmps)=true)
 (hr:∀W,(execOp a.eval o).run P W= .ok (.enter f args) W)(hc:∀W,Ext w W->Calls P f args W fun e W'=>e= .returned v/\Ext W W')(h:LX P ops R t (k::l) (a.put o.dst v) w):LX P ops R t l a w:=
 Zim hs hi hf (.inl ⟨hw,fun W hW=>by unfold YV;rw[hr W];exact⟨Ext.rfl' W,hc W hW⟩⟩) h
theorem Zi8{o:Oper}{a:Act}{W:World}{K:Act->World->Prop}{Q:Exit->Act->World->Prop}(h:∃W',(execOp a.eval o).run prog W= .ok .skip W'/\K (a.put o.dst undef) W'):o.wp prog a W K Q:=by
 obtain⟨W',hr,h⟩:=h;unfold Oper.wp;rw[hr];simp only[Oper.upon];exact h
theorem Zig{o:Oper}{a:Act}{W:World}{K:Act->World->Prop}{Q:Exit->Act->World->Prop}(h:∃v W',(execOp a.eval o).run prog W= .ok (.value v) W'/\K (a.put o.dst v) W'):o.wp prog a W K Q:=by
 obtain⟨v,W',hr,h⟩:=h;unfold Oper.wp;rw[hr];simp only[Oper.upon];exact h
end Go.Proofs.Tryq
namespace Go.Proofs.Tryq
set_option maxRecDepth 100000
set_option maxHeartbeats 4000000
open Go Go.Nk Go.RowKit
theorem ZaP(a b c m:Int)(bs off n cap:Nat)(x y:Sf)(i j k:Nat)(hk:k<3)(w:World)(Dg:bs<w.heap.size)(hi:i<n)(hj:j<n)(hn:n<=20)(sx:ShaftAt w bs (off+i*7) x)(sy:ShaftAt w bs (off+j*7) y)
 (hx:ZF (spA x k)=true)(hy:ZF (spA y k)=true)(hN:0<=alw a b c k/\alw a b c k<=9999):
 Calls prog 144 #[.agg #[.int .i64 a,.int .i64 b,.int .i64 c,.int .i64 m,.slice (some ⟨bs,off,none⟩) n cap],.int .i64 i,.int .i64 j,.int .i64 k] w fun e w'=>e= .returned (.int .i64 (Z1m a b c x y k))/\Ext w w':=by
 have Vk:=fun w=>Z31 x k hk w
 have Vl:=fun w=>Z31 y k hk w
 have Hz:=fun w=>Z6Z a b c m k hk w
 have Bu:=Z0j hx;have Jr:=Z0j hy;have H:Hid (Z1m a b c x y k=Z2Q (alw a b c k) (spA x k) (spA y k)):=rfl;simp only[sfC] at Vk Vl;generalize Z1m a b c x y k=R at H⊢;generalize alw a b c k=N at Hz hN H;generalize spA x k=P at Vk Bu H;generalize spA y k=Q at Vl Jr H;obtain⟨P1,P2⟩:=P;obtain⟨Q1,Q2⟩:=Q;dsimp only at Vk Vl Bu Jr;have w1:wrap64 (P2 - Q1)=P2 - Q1:=by unfold wrap64;omega
 have w2:wrap64 (Q2 - P1)=Q2 - P1:=by unfold wrap64;omega
 have w3:wrap64 (P1 - Q2)=P1 - Q2:=by unfold wrap64;omega
 have w4:wrap64 (Q1 - P2)=Q1 - P2:=by unfold wrap64;omega
 clear hx hy;have hi':¬n<=i:=by omega
 have hj':¬n<=j:=by omega
 go_enter func144,ntmps144;go_wp2_with fail;have Ai:=(Ext.rfl' w).alloc (.cells #[.int .i64 a,.int .i64 b,.int .i64 c,.int .i64 m,.slice (some ⟨bs,off,none⟩) n cap] 26);have hr:=(Z3 w (.cells #[.int .i64 a,.int .i64 b,.int .i64 c,.int .i64 m,.slice (some ⟨bs,off,none⟩) n cap] 26) w.heap.size).trans (if_pos rfl);have q0:=Z0 hr 0;have q1:=Z0 hr 1;have q2:=Z0 hr 2;have q3:=Z0 hr 3;have q4:=Z0 hr 4;simp only[List.getElem?_toArray,List.getElem?_cons_zero,List.getElem?_cons_succ] at q0 q1 q2 q3 q4;have x0:=Ai.cellS sx.1;have x1:=Ai.cellS sx.2;have x2:=Ai.cellS sx.3;have x3:=Ai.cellS sx.4;have x4:=Ai.cellS sx.5;have x5:=Ai.cellS sx.6;have x6:=Ai.cellS sx.7;have y0:=Ai.cellS sy.1;have y1:=Ai.cellS sy.2;have y2:=Ai.cellS sy.3;have y3:=Ai.cellS sy.4;have y4:=Ai.cellS sy.5;have y5:=Ai.cellS sy.6;have y6:=Ai.cellS sy.7;generalize World.alloc w _=V at Ai q0 q1 q2 q3 q4 x0 x1 x2 x3 x4 x5 x6 y0 y1 y2 y3 y4 y5 y6⊢;have zq0:=Zet q0;have zq1:=Zet q1;have zq2:=Zet q2;have zq3:=Zet q3;have zq4:=Zet q4;have zx0:=Zet x0;have zx1:=Zet x1;have zx2:=Zet x2;have zx3:=Zet x3;have zx4:=Zet x4;have zx5:=Zet x5;have zx6:=Zet x6;have zy0:=Zet y0;have zy1:=Zet y1;have zy2:=Zet y2;have zy3:=Zet y3;have zy4:=Zet y4;have zy5:=Zet y5;have zy6:=Zet y6
 refine Zia (T:=Nat×Nat) (fun zz=>[(12,.pointer (some ⟨w.heap.size,4,none⟩)),(13,.slice (some ⟨bs,off,none⟩) n cap),(14,.int .i64 i),(15,.pointer (some ⟨bs,off+i*7,none⟩)),(16,.agg #[.string x.nm,.int .i64 x.a0,.int .i64 x.a1,.int .i64 x.b0,.int .i64 x.b1,.int .i64 x.c0,.int .i64 x.c1]),(17,.int .i64 k),(18,.agg #[.int .i64 P1,.int .i64 P2]),(19,.pointer (some ⟨w.heap.size,4,none⟩)),(20,.slice (some ⟨bs,off,none⟩) n cap),(21,.int .i64 j),(22,.pointer (some ⟨bs,off+j*7,none⟩)),(23,.agg #[.string y.nm,.int .i64 y.a0,.int .i64 y.a1,.int .i64 y.b0,.int .i64 y.b1,.int .i64 y.c0,.int .i64 y.c1]),(24,.int .i64 k),(25,.agg #[.int .i64 Q1,.int .i64 Q2]),(26,.pointer (some ⟨w.heap.size,0,none⟩)),(27,.agg #[.int .i64 a,.int .i64 b,.int .i64 c,.int .i64 m]),(28,.int .i64 k),(29,.int .i64 N),(9,.pointer (some ⟨zz.1,0,none⟩)),(10,.pointer (some ⟨zz.2,0,none⟩)),(11,.int .i64 N)]) (fun zz W=>Ext V W/\W.heap[zz.1]? =some (.cells #[.int .i64 P1,.int .i64 P2] 48)/\W.heap[zz.2]? =some (.cells #[.int .i64 Q1,.int .i64 Q2] 48)) ?_ ?_
 ·refine ZeG 20 (by kernel_rfl) ?_;refine Zin [0,1,2,3,4,5,7,8,9,10,11,12,14,15,16] (by kernel_rfl) (by kernel_rfl) ?_;simp only[ZeD,List.getElem?_cons_succ,List.getElem?_cons_zero,List.cons_append,List.nil_append]
  repeat (go_big_quiet_step (fail))
  refine wpQuiet_nil ?_;refine Zib 6 (f:=33) (args:= #[.agg #[.string x.nm,.int .i64 x.a0,.int .i64 x.a1,.int .i64 x.b0,.int .i64 x.b1,.int .i64 x.c0,.int .i64 x.c1],.int .i64 k]) (v:= .agg #[.int .i64 P1,.int .i64 P2]) (by kernel_rfl) rfl (by kernel_rfl) rfl (fun W=>by simp[go_sem,execOp,Act.eval]) (fun W _=>Vk W) ?_;go_simp;refine Zib 13 (f:=33) (args:= #[.agg #[.string y.nm,.int .i64 y.a0,.int .i64 y.a1,.int .i64 y.b0,.int .i64 y.b1,.int .i64 y.c0,.int .i64 y.c1],.int .i64 k]) (v:= .agg #[.int .i64 Q1,.int .i64 Q2]) (by kernel_rfl) rfl (by kernel_rfl) rfl (fun W=>by simp[go_sem,execOp,Act.eval]) (fun W _=>Vl W) ?_;go_simp;refine Zib 17 (f:=99) (args:= #[.agg #[.int .i64 a,.int .i64 b,.int .i64 c,.int .i64 m],.int .i64 k]) (v:= .int .i64 N) (by kernel_rfl) rfl (by kernel_rfl) rfl (fun W=>by simp[go_sem,execOp,Act.eval]) (fun W _=>Hz W) ?_;go_simp;refine Zit 18 19 rfl rfl (by kernel_rfl) rfl rfl (fun W hW=> ?_) (fun W hW=> ?_)
  ·refine Zf3 ⟨.pointer (some ⟨W.heap.size,0,none⟩),W.alloc (.cells #[.int .i64 0,.int .i64 0] 48),by simp[go_sem,execOp,Act.eval],(Ext.rfl' W).alloc _,?_⟩;go_simp;have m1:(W.alloc (.cells #[.int .i64 0,.int .i64 0] 48)).heap[W.heap.size]? =some (.cells #[.int .i64 0,.int .i64 0] 48):=by rw[Z3,if_pos rfl]
   have e1:=hW.alloc (.cells #[.int .i64 0,.int .i64 0] 48);have lb1:V.heap.size<=W.heap.size:=(hW).size;obtain⟨b1,Ax⟩:∃b,b=W.heap.size:=⟨_,rfl⟩;rw[<-Ax] at m1 lb1;rw[<-Ax];generalize W.alloc _=Wb1 at m1 e1⊢;clear Ax hW;clear W;refine Zfa 19 rfl (by kernel_rfl) rfl (fun W hW=> ?_);refine Zf3 ⟨.pointer (some ⟨W.heap.size,0,none⟩),W.alloc (.cells #[.int .i64 0,.int .i64 0] 48),by simp[go_sem,execOp,Act.eval],(Ext.rfl' W).alloc _,?_⟩;go_simp;have m2:(W.alloc (.cells #[.int .i64 0,.int .i64 0] 48)).heap[W.heap.size]? =some (.cells #[.int .i64 0,.int .i64 0] 48):=by rw[Z3,if_pos rfl]
   have e2:=(e1.trans hW).alloc (.cells #[.int .i64 0,.int .i64 0] 48);have A8:b1≠W.heap.size:=by have:=Z5 (hW.get m1);omega
   replace m1:=((Ext.rfl' W).alloc (.cells #[.int .i64 0,.int .i64 0] 48)).get (hW.get m1);have lb2:V.heap.size<=W.heap.size:=((e1.trans hW)).size;obtain⟨b2,Ao⟩:∃b,b=W.heap.size:=⟨_,rfl⟩;rw[<-Ao] at m2 lb2 A8;rw[<-Ao];generalize W.alloc _=Wb2 at m2 e2 m1⊢;clear Ao hW;clear W;refine Zfp 3 (by kernel_rfl) (fun W hW=> ?_);simp only[List.drop_succ_cons,List.drop_zero];replace m1:=hW.get m1;replace m2:=hW.get m2;replace e2:=e2.trans hW;clear hW;refine wpList_plain rfl fun K hK=> ?_
   have c0:=Z0 m1 0;have c1:=Z0 m1 1;have f0:=Z8 m1 0;have f1:=Z8 m1 1;simp only[List.getElem?_toArray,List.getElem?_cons_zero,List.getElem?_cons_succ] at c0 c1;refine Zi8 ⟨(W.setCell ⟨b1,0,none⟩ (.int .i64 P1)).setCell ⟨b1,1,none⟩ (.int .i64 P2),by simp[go_sem,execOp,Act.eval,c0,c1,f0,f1],hK _ _ ?_⟩;clear hK;clear K c0 c1 f0 f1;replace m1:=set_pair m1 (.int .i64 P1) (.int .i64 P2);replace m2:=((set_ne (a:=⟨b1,1,none⟩) (Ne.symm A8) (.int .i64 P2)).trans (set_ne (a:=⟨b1,0,none⟩) (Ne.symm A8) (.int .i64 P1))).trans m2;replace e2:=(e2.setCell ⟨b1,0,none⟩ (.int .i64 P1) lb1).setCell ⟨b1,1,none⟩ (.int .i64 P2) lb1;generalize World.setCell _ _ _=W' at m1 m2 e2⊢;clear W;obtain⟨W,rfl⟩:∃W:World,W=W':=⟨_,rfl⟩;go_simp;refine wpList_plain rfl fun K hK=> ?_
   have c0:=Z0 m2 0;have c1:=Z0 m2 1;have f0:=Z8 m2 0;have f1:=Z8 m2 1;simp only[List.getElem?_toArray,List.getElem?_cons_zero,List.getElem?_cons_succ] at c0 c1;refine Zi8 ⟨(W.setCell ⟨b2,0,none⟩ (.int .i64 Q1)).setCell ⟨b2,1,none⟩ (.int .i64 Q2),by simp[go_sem,execOp,Act.eval,c0,c1,f0,f1],hK _ _ ?_⟩;clear hK;clear K c0 c1 f0 f1;replace m2:=set_pair m2 (.int .i64 Q1) (.int .i64 Q2);replace m1:=((set_ne (a:=⟨b2,1,none⟩) A8 (.int .i64 Q2)).trans (set_ne (a:=⟨b2,0,none⟩) A8 (.int .i64 Q1))).trans m1;replace e2:=(e2.setCell ⟨b2,0,none⟩ (.int .i64 Q1) lb2).setCell ⟨b2,1,none⟩ (.int .i64 Q2) lb2;generalize World.setCell _ _ _=W' at m2 m1 e2⊢;clear W;obtain⟨W,rfl⟩:∃W:World,W=W':=⟨_,rfl⟩;go_simp;refine wpList_plain rfl fun K hK=> ?_
   refine Zig ⟨.int .i64 N,W,by simp[go_sem,execOp,Act.eval],hK _ _ ?_⟩;clear hK;clear K;exact⟨rfl,b1,b2,(by simp only[Zip,Act.put];go_simp),e2,m1,m2⟩
  ·refine Zf3 ⟨.pointer (some ⟨W.heap.size,0,none⟩),W.alloc (.cells #[.int .i64 0,.int .i64 0] 48),by simp[go_sem,execOp,Act.eval],(Ext.rfl' W).alloc _,?_⟩;go_simp;have m2:(W.alloc (.cells #[.int .i64 0,.int .i64 0] 48)).heap[W.heap.size]? =some (.cells #[.int .i64 0,.int .i64 0] 48):=by rw[Z3,if_pos rfl]
   have e1:=hW.alloc (.cells #[.int .i64 0,.int .i64 0] 48);have lb2:V.heap.size<=W.heap.size:=(hW).size;obtain⟨b2,Ao⟩:∃b,b=W.heap.size:=⟨_,rfl⟩;rw[<-Ao] at m2 lb2;rw[<-Ao];generalize W.alloc _=Wb2 at m2 e1⊢;clear Ao hW;clear W;refine Zfa 18 rfl (by kernel_rfl) rfl (fun W hW=> ?_);refine Zf3 ⟨.pointer (some ⟨W.heap.size,0,none⟩),W.alloc (.cells #[.int .i64 0,.int .i64 0] 48),by simp[go_sem,execOp,Act.eval],(Ext.rfl' W).alloc _,?_⟩;go_simp;have m1:(W.alloc (.cells #[.int .i64 0,.int .i64 0] 48)).heap[W.heap.size]? =some (.cells #[.int .i64 0,.int .i64 0] 48):=by rw[Z3,if_pos rfl]
   have e2:=(e1.trans hW).alloc (.cells #[.int .i64 0,.int .i64 0] 48);have A8:b2≠W.heap.size:=by have:=Z5 (hW.get m2);omega
   replace m2:=((Ext.rfl' W).alloc (.cells #[.int .i64 0,.int .i64 0] 48)).get (hW.get m2);have lb1:V.heap.size<=W.heap.size:=((e1.trans hW)).size;obtain⟨b1,Ax⟩:∃b,b=W.heap.size:=⟨_,rfl⟩;rw[<-Ax] at m1 lb1 A8;rw[<-Ax];generalize W.alloc _=Wb1 at m1 e2 m2⊢;clear Ax hW;clear W;refine Zfp 3 (by kernel_rfl) (fun W hW=> ?_);simp only[List.drop_succ_cons,List.drop_zero];replace m1:=hW.get m1;replace m2:=hW.get m2;replace e2:=e2.trans hW;clear hW;refine wpList_plain rfl fun K hK=> ?_
   have c0:=Z0 m1 0;have c1:=Z0 m1 1;have f0:=Z8 m1 0;have f1:=Z8 m1 1;simp only[List.getElem?_toArray,List.getElem?_cons_zero,List.getElem?_cons_succ] at c0 c1;refine Zi8 ⟨(W.setCell ⟨b1,0,none⟩ (.int .i64 P1)).setCell ⟨b1,1,none⟩ (.int .i64 P2),by simp[go_sem,execOp,Act.eval,c0,c1,f0,f1],hK _ _ ?_⟩;clear hK;clear K c0 c1 f0 f1;replace m1:=set_pair m1 (.int .i64 P1) (.int .i64 P2);replace m2:=((set_ne (a:=⟨b1,1,none⟩) A8 (.int .i64 P2)).trans (set_ne (a:=⟨b1,0,none⟩) A8 (.int .i64 P1))).trans m2;replace e2:=(e2.setCell ⟨b1,0,none⟩ (.int .i64 P1) lb1).setCell ⟨b1,1,none⟩ (.int .i64 P2) lb1;generalize World.setCell _ _ _=W' at m1 m2 e2⊢;clear W;obtain⟨W,rfl⟩:∃W:World,W=W':=⟨_,rfl⟩;go_simp;refine wpList_plain rfl fun K hK=> ?_
   have c0:=Z0 m2 0;have c1:=Z0 m2 1;have f0:=Z8 m2 0;have f1:=Z8 m2 1;simp only[List.getElem?_toArray,List.getElem?_cons_zero,List.getElem?_cons_succ] at c0 c1;refine Zi8 ⟨(W.setCell ⟨b2,0,none⟩ (.int .i64 Q1)).setCell ⟨b2,1,none⟩ (.int .i64 Q2),by simp[go_sem,execOp,Act.eval,c0,c1,f0,f1],hK _ _ ?_⟩;clear hK;clear K c0 c1 f0 f1;replace m2:=set_pair m2 (.int .i64 Q1) (.int .i64 Q2);replace m1:=((set_ne (a:=⟨b2,1,none⟩) (Ne.symm A8) (.int .i64 Q2)).trans (set_ne (a:=⟨b2,0,none⟩) (Ne.symm A8) (.int .i64 Q1))).trans m1;replace e2:=(e2.setCell ⟨b2,0,none⟩ (.int .i64 Q1) lb2).setCell ⟨b2,1,none⟩ (.int .i64 Q2) lb2;generalize World.setCell _ _ _=W' at m2 m1 e2⊢;clear W;obtain⟨W,rfl⟩:∃W:World,W=W':=⟨_,rfl⟩;go_simp;refine wpList_plain rfl fun K hK=> ?_
   refine Zig ⟨.int .i64 N,W,by simp[go_sem,execOp,Act.eval],hK _ _ ?_⟩;clear hK;clear K;exact⟨rfl,b1,b2,(by simp only[Zip,Act.put];go_simp),e2,m1,m2⟩
 ·rintro⟨b0,b1⟩ W ⟨B4,m0,m1⟩;simp only[Zip,Act.put];go_simp;have A5:=Ai.trans B4;have g0:=Zc m0;have g00:=g0.1;have g01:=g0.2.1;have g1:=Zc m1;have g10:=g1.1;have g11:=g1.2.1;clear g0 g1;go_wp2
  all_goals
   go_ret;refine⟨ZK ?_,A5⟩;rw[H.out];simp only[Z2Q]
   (split<;>try split)
   all_goals first|rfl|(exfalso;simp at*;omega)
end Go.Proofs.Tryq
namespace Go.Proofs.Tryq
set_option maxRecDepth 100000
set_option maxHeartbeats 8000000
open Go Go.Nk Go.RowKit
def apF(a b c:Int)(L:List Sf)(p q:Int):Nat->List Ap
 |0=>apP a b c L p q
 |1=>apE a b c L p q 1++apE a b c L p q 2
 |2=>apE a b c L p q 2
 |_=>[]
theorem Zcf(a b c:Int)(L:List Sf)(p q:Int)(u:Nat)(h:u<3):apF a b c L p q u=apE a b c L p q u++apF a b c L p q (u+1):=by
 match u,h with
 |0,_=>rfl
 |1,_=>rfl
 |2,_=>exact(List.append_nil _).symm
theorem OwnAp.ne{B b:Nat}{w:World}{v:Value}{A:List Ap}{C:Array Value}{ty:TypeId}(h:OwnAp B w v A)(hb:w.heap[b]? =some (.cells C ty))(hty:ty≠46):v.ownBlock≠some b:=by
 intro e;rcases h.2 with⟨rfl,_⟩|⟨g,_,_,rfl,_,hg,_⟩
 ·cases e
 ·cases e;rw[hb] at hg;cases hg;exact hty rfl
theorem Zcg{a b c:Int}{L:List Sf}(hG:Good a b c L){u:Nat}(hu:u<3):0<=alw a b c u/\alw a b c u<=9999:=by
 match u,hu with
 |0,_=>exact hG.1
 |1,_=>exact hG.2
 |2,_=>exact hG.3
theorem Z7Q{a b c:Int}{L:List Sf}(hG:Good a b c L){x:Sf}(hx:x∈L){u:Nat}(hu:u<3):ZF (spA x u)=true:=by
 have h:=hG.ins hx
 match u,hu with
 |0,_=>exact h.1
 |1,_=>exact h.2.1
 |2,_=>exact h.2.2
theorem Z4t(a b c m:Int)(base:Option Addr)(n cap:Nat)(L:List Sf)(bl:Option Addr)(k cl:Nat)(l:List Int)(w:World)(hG:Good a b c L)(A2:L.length=n)(hn:n<=20)(hk:l.length=k)(B0:k<=100)(As:∀p∈l,0<=p/\p<(n:Int))(hS:RawA w base L)(hl:RawI w bl l):
 Calls prog 98 #[.agg #[.int .i64 a,.int .i64 b,.int .i64 c,.int .i64 m,.slice base n cap],.slice bl k cl] w fun e w'=>∃v,e= .returned v/\OwnAp w.heap.size w' v (apA a b c L l)/\Ext w w':=by
 have Uw:(apA a b c L l).length<=30000:=by
  have h:=Z3K a b c L 100 l (by omega);have:3*100*l.length<=30000:=by omega
  omega
 have H:Hid (apA a b c L l=[]++apA a b c L (l.drop 0)):=rfl;have Bg:=(Ext.rfl' w).alloc (.cells #[.int .i64 a,.int .i64 b,.int .i64 c,.int .i64 m,.slice base n cap] 26);have Gf:(w.alloc (.cells #[.int .i64 a,.int .i64 b,.int .i64 c,.int .i64 m,.slice base n cap] 26)).heap[w.heap.size]? =some (.cells #[.int .i64 a,.int .i64 b,.int .i64 c,.int .i64 m,.slice base n cap] 26):=by rw[Z3,if_pos rfl]
 go_enter func98,ntmps98;go_wp2;go_loopw [5,6] (fun v5 v6 wr=>∃(i:Nat)(pre:List Ap),i<=k/\v6= .int .i64 i/\wr.heap[w.heap.size]? =some (.cells #[.int .i64 a,.int .i64 b,.int .i64 c,.int .i64 m,.slice base n cap] 26)/\Ext w wr/\OwnAp w.heap.size wr v5 pre/\Hid (apA a b c L l=pre++apA a b c L (l.drop i))) (fun _ v6 _=>k - (intOf v6).toNat)
 case atStart=>exact⟨0,[],Nat.zero_le _,rfl,Gf,Bg,World.ownsRow_nil _ _ _ _,H⟩
 case round=>
  obtain⟨i,pre,hi,rfl,hr,hE,A9,hH⟩:=hrel;clear H Bg Gf;by_cases Ds:i=k
  ·subst Ds;have hz:apA a b c L l=pre:=by rw[hH.out,<-hk,List.drop_length,apA,List.append_nil]
   clear hH;go_wp2;go_ret;exact⟨_,rfl,by rw[hz];exact A9,hE⟩
  ·have Gd:i<k:=by omega
   obtain⟨p,hp⟩:∃p,l[i]? =some p:=⟨_,List.getElem?_eq_getElem (by omega)⟩;have Kv:=As p (List.mem_of_getElem? hp);obtain⟨P,rfl⟩:=Int.eq_ofNat_of_zero_le Kv.1;obtain⟨bb,ob,rfl,Pv,Hk⟩:=hl i _ hp;obtain⟨x,hx⟩:∃x,L[P]? =some x:=⟨_,List.getElem?_eq_getElem (by omega)⟩;obtain⟨bs,off,rfl,Dg,sx,_⟩:=hS P x hx;have Dn:Hid (apA a b c L l=pre++(apR a b c L P (l.drop (i+1))++apA a b c L (l.drop (i+1)))):=by show _=_;rw[hH.out,Z7D a b c L hp]
   clear hH;go_wp2;obtain⟨wa,rfl⟩:∃wa:World,wa=wr:=⟨_,rfl⟩;go_loopw [5,7] (fun v5 v7 wr=>∃(j:Nat)(pre:List Ap),i+1<=j/\j<=k/\v7= .int .i64 j/\wr.heap[w.heap.size]? =some (.cells #[.int .i64 a,.int .i64 b,.int .i64 c,.int .i64 m,.slice (some ⟨bs,off,none⟩) n cap] 26)/\Ext w wr/\OwnAp w.heap.size wr v5 pre/\Hid (apA a b c L l=pre++(apR a b c L P (l.drop j)++apA a b c L (l.drop (i+1))))) (fun _ v7 _=>k - (intOf v7).toNat)
   case atStart=>exact⟨i+1,pre,Nat.le_refl _,by omega,by push_cast;rfl,hr,hE,A9,Dn⟩
   case round=>
    clear Dn hr hE A9;obtain⟨j,pre2,I9,hj,rfl,hr,hE,A9,hH⟩:=hrel;by_cases G2:j=k
    ·subst G2;have J3:Hid (apA a b c L l=pre2++apA a b c L (l.drop (i+1))):=(by show _=_;rw[hH.out,<-hk,List.drop_length];rfl);clear hH;go_wp2;exact⟨⟨i+1,pre2,by omega,by push_cast;rfl,hr,hE,A9,J3⟩,by simp[intOf];omega⟩
    ·have Cb:j<k:=(by omega);obtain⟨q,hq⟩:∃q,l[j]? =some q:=⟨_,List.getElem?_eq_getElem (by omega)⟩;have Xe:=As q (List.mem_of_getElem? hq);obtain⟨Q,rfl⟩:=Int.eq_ofNat_of_zero_le Xe.1;obtain⟨bb2,ob2,Fu,_,Ld⟩:=hl j _ hq;obtain⟨rfl,rfl⟩:bb=bb2/\ob=ob2:=(by simpa using Fu);obtain⟨y,hy⟩:∃y,L[Q]? =some y:=⟨_,List.getElem?_eq_getElem (by omega)⟩;obtain⟨bs2,off2,he3,_,sy,_⟩:=hS Q y hy;obtain⟨rfl,rfl⟩:bs=bs2/\off=off2:=(by simpa using he3);have J3:Hid (apA a b c L l=pre2++(apF a b c L P Q 0++(apR a b c L P (l.drop (j+1))++apA a b c L (l.drop (i+1))))):=(by show _=_;rw[hH.out,Z7E a b c L P hq,apF,List.append_assoc]);clear hH Fu he3;go_wp2;obtain⟨wb,rfl⟩:∃wb:World,wb=wr:=⟨_,rfl⟩;go_loopw [5,8] (fun v5 v8 wr=>∃(u:Nat)(pre:List Ap),u<=3/\v8= .int .i64 u/\wr.heap[w.heap.size]? =some (.cells #[.int .i64 a,.int .i64 b,.int .i64 c,.int .i64 m,.slice (some ⟨bs,off,none⟩) n cap] 26)/\Ext w wr/\OwnAp w.heap.size wr v5 pre/\Hid (apA a b c L l=pre++(apF a b c L P Q u++(apR a b c L P (l.drop (j+1))++apA a b c L (l.drop (i+1)))))) (fun _ v8 _=>3 - (intOf v8).toNat)
     case atStart=>exact⟨0,pre2,by omega,rfl,hr,hE,A9,J3⟩
     case round=>
      clear J3 hr hE A9;obtain⟨u,pre3,hu,rfl,hr,hE,A9,hH⟩:=hrel;by_cases hu3:u=3
      ·subst hu3;have I4:Hid (apA a b c L l=pre3++(apR a b c L P (l.drop (j+1))++apA a b c L (l.drop (i+1)))):=hH;clear hH;go_wp2;exact⟨⟨j+1,pre3,by omega,by omega,by push_cast;rfl,hr,hE,A9,I4⟩,by simp[intOf];omega⟩
      ·have Jo:u<3:=(by omega);have Eb:=fun W (hW:Ext w W)=>ZaP a b c m bs off n cap x y P Q u Jo W (hW.lt Dg) (by omega) (by omega) hn (sx.ext hW) (sy.ext hW) (Z7Q hG (List.mem_of_getElem? hx) Jo) (Z7Q hG (List.mem_of_getElem? hy) Jo) (Zcg hG Jo)
       have Ai:apE a b c L P Q u=if Z1m a b c x y u=1 then[] else[⟨P,Q,u,Z1m a b c x y u⟩]:=by rw[apE,Int.toNat_natCast,Int.toNat_natCast,hx,hy]
       have I4:Hid (apA a b c L l=pre3++((if Z1m a b c x y u=1 then[] else[⟨P,Q,u,Z1m a b c x y u⟩])++(apF a b c L P Q (u+1)++(apR a b c L P (l.drop (j+1))++apA a b c L (l.drop (i+1)))))):=(by show _=_;rw[hH.out,Zcf _ _ _ _ _ _ u Jo,Ai,List.append_assoc]);have Ph:pre3.length<=30000:=by
        have:=congrArg List.length hH.out;rw[List.length_append] at this;omega
       clear hH Ai;generalize Z1m a b c x y u=s at Eb I4;have q0:=Z0 hr 0;have q1:=Z0 hr 1;have q2:=Z0 hr 2;have q3:=Z0 hr 3;have q4:=Z0 hr 4;simp only[List.getElem?_toArray,List.getElem?_cons_zero,List.getElem?_cons_succ] at q0 q1 q2 q3 q4;have cp:=hE.cellS Hk;have cq:=hE.cellS Ld;have hi':¬k<=i:=(by omega);have hj':¬k<=j:=(by omega);have Wo:(u:Int)<=2:=(by omega);have hI:(i:Int)<(k:Int):=(by omega);have hJ:(j:Int)<(k:Int):=(by omega);go_wp2_with fail;have gz0:=Zet q0;have gz1:=Zet q1;have gz2:=Zet q2;have gz3:=Zet q3;have gz4:=Zet q4;have gz5:=Zet cp;have gz6:=Zet cq;refine ZeG 12 (by kernel_rfl) ?_;refine ZeB [0,1,2,3,4,5,6,7,8,9] (by kernel_rfl) (by kernel_rfl) ?_;simp only[ZeD,List.getElem?_cons_succ,List.getElem?_cons_zero,List.cons_append,List.nil_append]
       repeat (go_big_quiet_step (fail))
       refine wpQuiet_nil ?_;refine ZeX 10 (f:=144) (args:= #[.agg #[.int .i64 a,.int .i64 b,.int .i64 c,.int .i64 m,.slice (some ⟨bs,off,none⟩) n cap],.int .i64 P,.int .i64 Q,.int .i64 u]) (v:= .int .i64 s) (by kernel_rfl) rfl (by kernel_rfl) rfl (fun W=>by simp[go_sem,execOp,Act.eval]) (fun W hW=>Eb W (hE.trans hW)) ?_;go_simp;refine ZeB [11] (by kernel_rfl) (by kernel_rfl) ?_;simp only[ZeD,List.getElem?_cons_succ,List.getElem?_cons_zero,List.cons_append,List.nil_append]
       repeat (go_big_quiet_step (fail))
       refine wpQuiet_nil ?_;refine Zf6 (by kernel_rfl) (fun W hW=> ?_);have B4:=hW;clear gz0 gz1 gz2 gz3 gz4 gz5 gz6;have A5:=hE.trans B4;have Dw:=B4.get hr;have Cr:OwnAp w.heap.size W u5 pre3:=Z00 A9 B4;by_cases Cd:s=1
       ·have hb:(s !=1)=false:=(by simp[Cd]);have K4:Hid (apA a b c L l=pre3++(apF a b c L P Q (u+1)++(apR a b c L P (l.drop (j+1))++apA a b c L (l.drop (i+1))))):=(by show _=_;rw[I4.out,if_pos Cd,List.nil_append]);clear I4 Cd;go_wp2;go_roundw
        case rel=>exact⟨u+1,pre3,by omega,by push_cast;rfl,Dw,A5,Cr,K4⟩
        case measure=>simp[intOf];omega
       ·have hb:(s !=1)=true:=(by simp[Cd]);have K4:Hid (apA a b c L l=(pre3++[⟨P,Q,u,s⟩])++(apF a b c L P Q (u+1)++(apR a b c L P (l.drop (j+1))++apA a b c L (l.drop (i+1))))):=(by show _=_;rw[I4.out,if_neg Cd,List.append_assoc]);clear I4 Cd q0 q1 q2 q3 q4;go_wp2_with fail;refine Zhk (ExtX fun q=>W.heap.size<=q\/u5.ownBlock=some q) (by kernel_rfl) ?_;have C1:Ext w W.drew:=A5.drew;have H2:=((Ext.rfl' W).drew).get Dw;have Cj:OwnAp w.heap.size W.drew u5 pre3:=Z00 Cr ((Ext.rfl' W).drew);have cp2:=C1.cellS Hk;have cq2:=C1.cellS Ld;obtain⟨M,hM⟩:∃M,M=W.heap.size:=⟨_,rfl⟩;have Kc:M<=W.drew.heap.size:=(by rw[hM];exact Nat.le_refl _);have hN:¬(M<=bb\/u5.ownBlock=some bb):=by
         rintro(h|h)
         ·have:=A5.size;omega
         ·have:=(World.ownsRow.lt Cj _ h).1;omega
        have hwM:w.heap.size<=W.drew.heap.size:=C1.size;rw[<-hM];generalize W.drew=Wd at C1 H2 Cj cp2 cq2 Kc hwM⊢;have gp:=GrE.cell (X:=fun q=>M<=q\/u5.ownBlock=some q) hN cp2;have gq:=GrE.cell (X:=fun q=>M<=q\/u5.ownBlock=some q) hN cq2;refine Zh8 (ExtX.pre _) [0,1,2,3,4,5,6,7,8,9,10] (by kernel_rfl) (by kernel_rfl) ?_;simp only[ZeD,List.getElem?_cons_succ,List.getElem?_cons_zero,List.cons_append,List.nil_append]
        repeat (go_big_quiet_step (fail))
        refine wpQuiet_nil ?_;refine Zh4 11 rfl (by kernel_rfl) rfl ?_;clear gp gq;refine Zf3 ⟨.agg #[.int .i64 P,.int .i64 Q,.int .i64 u,.int .i64 s],Wd,by simp[go_sem,execOp,Act.eval],Go.Nk.Ext.toX (Ext.rfl' _) _,?_⟩;go_simp;refine Zh4 12 rfl (by kernel_rfl) rfl ?_;refine Zf3 ⟨.slice (some ⟨Wd.heap.size,0,none⟩) 1 1,Wd.alloc (.cells #[.int .i64 P,.int .i64 Q,.int .i64 u,.int .i64 s] 46),by simp[go_sem,execOp,Act.eval],Go.Nk.Ext.toX ((Ext.rfl' _).alloc _) _,?_⟩;go_simp;refine Zh4 13 rfl (by kernel_rfl) rfl ?_;refine wp_append_own (Wd.alloc _) _ _ 35 rfl w.heap.size 46 Tryz.t46 (.agg #[.int .i64 0,.int .i64 0,.int .i64 0,.int .i64 0]) 4 32 Go.Proofs.Tryq.u35 i46 t46z t46s t46b rfl (by omega) u5 pre3.length (pre3.flatMap apC) rfl (Z00 Cj ((Ext.rfl' Wd).alloc _)) ⟨Wd.heap.size,0,none⟩ 1 1 (apC ⟨P,Q,u,s⟩) rfl rfl (Z7G _ _ _ _ _ _) (by intro u hu;simp only[apC,List.mem_cons,List.not_mem_nil,or_false] at hu;rcases hu with rfl|rfl|rfl|rfl<;>rfl) (by simp only[maxLen];omega) (by omega) (by simp only[Z2];omega) (fun v' w3 Af Dp _=>⟨Zhv Dp (fun k hk=> .inr hk),?_⟩);have U5:OwnAp w.heap.size w3 v' (pre3++[⟨P,Q,u,s⟩]):=(by simpa[OwnAp,apC] using Af);have hEF:Ext w w3:=(C1.alloc _).grown Dp (fun k hk=>(World.ownsRow.lt Cj k hk).1)
        have hrF:=(Dp.block _ (by simp only[Z2];have:=Z5 H2;omega) (fun e=>OwnAp.ne Cj H2 (by decide) e.symm)).trans (((Ext.rfl' Wd).alloc _).get H2);go_simp;refine Zh8 (ExtX.pre _) [14] (by kernel_rfl) (by kernel_rfl) ?_;simp only[ZeD,List.getElem?_cons_succ,List.getElem?_cons_zero,List.cons_append,List.nil_append]
        repeat (go_big_quiet_step (fail))
        refine wpQuiet_nil ?_;refine ZhF (by kernel_rfl) ?_;clear C1 H2 Cj cp2 cq2 Kc hwM hN Dp Af;go_wp2;go_roundw
        case rel=>exact⟨u+1,pre3++[⟨P,Q,u,s⟩],by omega,by push_cast;rfl,hrF,hEF,U5,K4⟩
        case measure=>simp[intOf];omega
end Go.Proofs.Tryq
namespace Go.Proofs.Tryq
set_option maxRecDepth 100000
set_option maxHeartbeats 4000000
open Go Go.Nk Go.RowKit
theorem ZaQ{A:List Ap}(h:A.any (fun x=>x.s==2)=false):Zr A=if A.length=0 then 1 else 0:=by
 unfold Zr;rw[if_neg (by rw[h];decide)];cases A<;>rfl
theorem Z8J(a b c m:Int)(base:Option Addr)(n cap:Nat)(L:List Sf)(bl:Option Addr)(k cl:Nat)(l:List Int)(w:World)(hG:Good a b c L)(A2:L.length=n)(hn:n<=20)(hk:l.length=k)(B0:k<=100)(As:∀p∈l,0<=p/\p<(n:Int))(hS:RawA w base L)(hl:RawI w bl l):
 Calls prog 89 #[.agg #[.int .i64 a,.int .i64 b,.int .i64 c,.int .i64 m,.slice base n cap],.slice bl k cl] w fun e w'=>e= .returned (.int .i64 (Zr (apA a b c L l)))/\Ext w w':=by
 have C5:=fun W hW=>Z4t a b c m base n cap L bl k cl l W hG A2 hn hk B0 As (hS.ext hW) (hl.ext hW)
 have K2:(apA a b c L l).length<=30000:=by
  have h:=Z3K a b c L 100 l (by omega);have:3*100*l.length<=30000:=by omega
  omega
 generalize apA a b c L l=A at C5 K2⊢;have H:Hid ((A.take 0).any (fun x=>x.s==2)=false):=rfl;go_enter func89,ntmps89
 go_wp2_with (
  go_at_call 98;refine(C5 _ ((Ext.rfl' w).alloc _)).mono ?_;rintro e w2 ⟨v,rfl,hv,A5⟩
  obtain⟨ao,cp,rfl,hr⟩:=hv.rawAp;have Ag:=((Ext.rfl' w).alloc _).trans A5)
 clear C5 A5;go_loopw [5,7] (fun v5 v7 wr=>∃i:Nat,i<=A.length/\v7= .int .i64 i/\v5= .int .i64 (if i=0 then 1 else 0)/\Ext w2 wr/\Hid ((A.take i).any (fun x=>x.s==2)=false)) (fun _ v7 _=>A.length - (intOf v7).toNat)
 case atStart=>exact⟨0,Nat.zero_le _,rfl,rfl,Ext.rfl' _,H⟩
 case round=>
  obtain⟨i,hi,rfl,rfl,hE,hH⟩:=hrel;clear H;by_cases hil:i=A.length
  ·have hz:Zr A=if i=0 then 1 else 0:=by
    have h2:=hH.out;rw[hil,List.take_length] at h2;rw[ZaQ h2,hil]
   have hil2:(i:Int)=(A.length:Int):=by omega
   clear hH;generalize (if i=0 then(1:Int) else 0)=r at hz⊢;go_wp2;go_ret;exact⟨ZK hz.symm,Ag.trans hE⟩
  ·have A3:i<A.length:=by omega
   obtain⟨x,hx⟩:∃x,A[i]? =some x:=⟨_,List.getElem?_eq_getElem A3⟩;obtain⟨b',off,rfl,hb,c0,c1,c2,c3⟩:=(hr.ext hE) i x hx;have hil0:(i:Int)<(A.length:Int):=by omega
   have hln:¬A.length<=i:=by omega
   have hiw:wrap64 ((i:Int)+1)=(i:Int)+1:=by unfold wrap64;omega
   generalize (if i=0 then(1:Int) else 0)=r;by_cases hs:x.s=2
   ·have hz:Zr A=2:=by
     unfold Zr;rw[if_pos];rw[List.any_eq_true];exact⟨x,List.mem_of_getElem? hx,by simp[hs]⟩
    rw[hs] at c3;clear hH hx;go_wp2;go_ret;exact⟨ZK (a:=2) hz.symm,Ag.trans hE⟩
   ·have Dn:Hid ((A.take (i+1)).any (fun x=>x.s==2)=false):=by
     show _=_;rw[Z0G hx,List.any_append,hH.out];simp[hs]
    clear hH hx;generalize x.s=xs at hs c3;go_wp2;exact⟨⟨i+1,by omega,by push_cast;rfl,rfl,hE,Dn⟩,by simp[intOf];omega⟩
def Z1B(L:List Sf):Bool:=decide (20<L.length)||L.any fun x=>decide (100<x.nm.size)
theorem ZaR(a b c m:Int)(base:Option Addr)(n cap:Nat)(L:List Sf)(w:World)(A2:L.length=n)(hS:RawA w base L):
 Calls prog 21 #[.agg #[.int .i64 a,.int .i64 b,.int .i64 c,.int .i64 m,.slice base n cap]] w fun e w'=>e= .returned (.bool (Z1B L))/\Ext w w':=by
 by_cases O3:20<L.length
 ·have hz:Z1B L=true:=by rw[Z1B,decide_eq_true O3,Bool.true_or]
  have hn:(20:Int)<(n:Int):=by omega
  rw[hz];clear O3 hz;go_enter func21,ntmps21;go_wp2;go_ret;exact⟨rfl,(Ext.rfl' w).alloc _⟩
 ·have hn:(n:Int)<=20:=by omega
  have H:Hid (Z1B L=(L.drop 0).any fun x=>decide (100<x.nm.size)):=by show _=_;rw[Z1B,decide_eq_false O3,Bool.false_or];rfl
  clear O3;go_enter func21,ntmps21;go_wp2;go_loopw [3] (fun v wr=>∃i:Nat,i<=n/\v= .int .i64 i/\wr.heap[w.heap.size]? =some (.cells #[.int .i64 a,.int .i64 b,.int .i64 c,.int .i64 m,.slice base n cap] 26)/\Ext w wr/\Hid (Z1B L=(L.drop i).any fun x=>decide (100<x.nm.size))) (fun v _=>n - (intOf v).toNat)
  case atStart=>exact⟨0,Nat.zero_le _,rfl,by rw[Z3,if_pos rfl],(Ext.rfl' w).alloc _,H⟩
  case round=>
   obtain⟨i,hi,rfl,hr,hE,hH⟩:=hrel;clear H;have q4:=Z0 hr 4;simp only[List.getElem?_toArray,List.getElem?_cons_zero,List.getElem?_cons_succ] at q4;by_cases As:i=n
   ·subst As;have hz:Z1B L=false:=(by rw[hH.out,<-A2,List.drop_length];rfl);go_wp2;go_ret;exact⟨ZP (a:=false) hz.symm,hE⟩
   ·have A3:i<n:=(by omega);obtain⟨x,hx⟩:∃x,L[i]? =some x:=⟨_,List.getElem?_eq_getElem (by omega)⟩;obtain⟨b',off,rfl,hb,hs,Po⟩:=(hS.ext hE) i x hx;have k0:=hs.1;have Ac:Hid (Z1B L=(decide (100<x.nm.size)||(L.drop (i+1)).any fun x=>decide (100<x.nm.size))):=(by show _=_;rw[hH.out,Z0b hx,List.any_cons]);clear hH hx;unfold maxLen at Po;have F3:¬n<=i:=(by omega);by_cases h1:100<x.nm.size
    ·have hz:Z1B L=true:=(by rw[Ac.out,decide_eq_true h1,Bool.true_or]);have h1':(100:Int)<(x.nm.size:Int):=(by omega);clear Ac h1;go_wp2;go_ret;exact⟨ZP (a:=true) hz.symm,hE⟩
    ·have Dn:Hid (Z1B L=(L.drop (i+1)).any fun x=>decide (100<x.nm.size)):=(by show _=_;rw[Ac.out,decide_eq_false h1,Bool.false_or]);have h1':(x.nm.size:Int)<=100:=(by omega);clear Ac h1;go_wp2;exact⟨⟨i+1,by omega,by push_cast;rfl,hr,hE,Dn⟩,by simp[intOf];omega⟩
end Go.Proofs.Tryq
namespace Go.Proofs.Tryq
set_option maxRecDepth 100000
set_option maxHeartbeats 8000000
open Go Go.Nk Go.RowKit
set_option linter.all false
theorem Zh3{w:World}{b:Nat}{a0 a1 a2 a3 a4:Value}{t:TypeId}(h:w.heap[b]? =some (.cells #[a0,a1,a2,a3,a4] t)):
 w.cell? ⟨b,0,none⟩=some a0/\w.cell? ⟨b,1,none⟩=some a1/\w.cell? ⟨b,2,none⟩=some a2/\w.cell? ⟨b,3,none⟩=some a3/\w.cell? ⟨b,4,none⟩=some a4:=
 ⟨Z0 h 0,Z0 h 1,Z0 h 2,Z0 h 3,Z0 h 4⟩
theorem Shr.cellsO{B:Nat}{w:World}{g n cp:Nat}{ls:List (List Int)}(h:Shr B w (.slice (some ⟨g,0,none⟩) n cp) ls){j:Nat}{s:List Int}(hs:ls[j]? =some s):∃ao c,w.cell? ⟨g,j,none⟩=some (.slice ao s.length c)/\OwnI B w (.slice ao s.length c) s/\s.length<=c:=by
 obtain⟨_,vs,h1,h2⟩:=h;obtain⟨u,hu,Ci⟩:=h2.get j s hs;obtain⟨ao,c,rfl,h3,h4,h5⟩:=Ci.raw2;have:=h1.cells (g:=g) rfl j _ hu;rw[Zh7,Nat.zero_add] at this;exact⟨ao,c,this,Ci,h4⟩
theorem OwnI.rawP{b:Nat}{w:World}{ao:Option Addr}{n c:Nat}{l:List Int}(h:OwnI b w (.slice ao n c) l):RawI w ao l:=by
 obtain⟨ao',c',e,_,_,hr⟩:=h.raw2;cases e;exact hr
theorem Zha(a b c m:Int)(base:Option Addr)(n cap:Nat)(L:List Sf)(bl:Option Addr)(k cl:Nat)(l:List Int)(w:World)(hG:Good a b c L)(A2:L.length=n)(hn:n<=20)(hm:2<=m/\m<=4)(hk:l.length=k)(Jz:k<=9)(D2:k<=cl)(As:∀p∈l,0<=p/\p<(n:Int))(hS:RawA w base L)(hl:RawI w bl l):
 Calls prog 116 #[.agg #[.int .i64 a,.int .i64 b,.int .i64 c,.int .i64 m,.slice base n cap],.slice bl k cl] w fun e w'=>∃v,e= .returned v/\Shr w.heap.size w' v (ZgO a b c L m.toNat l)/\Ext w w':=by
 have Bg:=(Ext.rfl' w).alloc (.cells #[.int .i64 a,.int .i64 b,.int .i64 c,.int .i64 m,.slice base n cap] 26);have Gf:(w.alloc (.cells #[.int .i64 a,.int .i64 b,.int .i64 c,.int .i64 m,.slice base n cap] 26)).heap[w.heap.size]? =some (.cells #[.int .i64 a,.int .i64 b,.int .i64 c,.int .i64 m,.slice base n cap] 26):=by rw[Z3,if_pos rfl]
 have Mz:=Zhs k l bl cl (w.alloc (.cells #[.int .i64 a,.int .i64 b,.int .i64 c,.int .i64 m,.slice base n cap] 26)) hk Jz D2 (hl.ext Bg);obtain⟨p,hp⟩:∃p:List Int->Bool,p=fun s=>decide (s.length=m.toNat)&&decide (Zr (apA a b c L s)=1):=⟨_,rfl⟩
 have hR:Hid (ZgO a b c L m.toNat l=(chooseR l).filter p):=by show _=_;rw[hp];rfl
 have hC:Hid ((∀s∈chooseR l,s.length<=9/\∀q∈s,0<=q/\q<(n:Int))/\chooseR l≠[]/\(chooseR l).length<=512):=by
  refine⟨fun s hs=>⟨by have:=chooseR_each l s hs;omega,fun q hq=>As q ((chooseR_mem l s hs).subset hq)⟩,by rw[chooseR_head];simp,?_⟩;rw[chooseR_len,hk];exact Nat.pow_le_pow_right (n:=2) (by omega) Jz
 generalize chooseR l=C at Mz hR hC;generalize ZgO a b c L m.toNat l=SR at hR⊢;replace hp:Hid (p=fun s=>decide (s.length=m.toNat)&&decide (Zr (apA a b c L s)=1)):=hp;have hSA:Hid (RawA w base L):=hS;clear hk As hl hS;go_enter func116,ntmps116
 go_wp2_with (
  go_at_call 127;(with_reducible refine Mz.mono ?_);rintro e w1 ⟨v,rfl,Vm,hF⟩
  obtain⟨g,rc,rfl,G7,Qw,X3⟩:=Vm.own hC.out.2.1;have Ai:=Bg.trans hF;have E6:=hF.get Gf;replace Vm:=Vm.le (show w.heap.size<=_ from Bg.size);have U6:=Ai)
 clear Bg hF Gf Mz G7 Qw;have Bg:=U6;clear U6;have HP0:Hid ([]=(C.take 0).filter p):=rfl;go_loopw [5,7] (fun v5 v7 wr=>∃(i:Nat)(S:List (List Int)),i<=C.length/\v7= .int .i64 i/\Ext w1 wr/\Shr w.heap.size wr v5 S/\(∀q,v5.ownBlock=some q->w1.heap.size<=q)/\Hid (S=(C.take i).filter p)) (fun _ v7 _=>C.length - (intOf v7).toNat)
 case atStart=>exact⟨0,[],Nat.zero_le _,rfl,Ext.rfl' w1,Shr.nil _ _,(fun q hq=>nomatch hq),HP0⟩
 case round=>
  clear HP0;obtain⟨i,S,hi,rfl,hE,hS,Ec,HP⟩:=hrel;by_cases Ds:i=C.length
  ·have HQ:Hid (SR=S):=by show _=_;rw[hR.out,HP.out,Ds,List.take_length]
   subst Ds;clear HP;go_wp2;go_ret;exact⟨_,rfl,by rw[HQ.out];exact hS,Bg.trans hE⟩
  ·have A3:i<C.length:=by omega
   have C9:(i:Int)<(C.length:Int):=by omega
   have Kt:(i:Int)<1000:=by have:=hC.out.2.2;omega
   obtain⟨s,hs⟩:∃s,C[i]? =some s:=⟨_,List.getElem?_eq_getElem A3⟩;obtain⟨ad,cp,Do,Ci,Hk⟩:=(Vm.ext hE).cellsO hs;obtain⟨G6,hsin⟩:=hC.out.1 s (List.mem_of_getElem? hs);have hr:=hE.get E6;have J7:=fun W (hW:Ext wr W)=>Z8J a b c m base n cap L ad s.length cp s W hG A2 hn rfl (by omega) hsin (hSA.out.ext ((Bg.trans hE).trans hW)) ((OwnI.rawP Ci).ext hW)
   have Gw:S.length<=512:=by
    have h1:=hC.out.2.2;have h2:=List.length_filter_le p (C.take i);rw[HP.out];rw[List.length_take] at h2;omega
   have HN0:Hid ((C.take (i+1)).filter p=S++(if p s=true then[s] else[])):=by
    show _=_;rw[Z0G hs,List.filter_append,<-HP.out];congr 1;cases hps0:p s<;>simp[hps0]
   have Qh:p s=(decide (s.length=m.toNat)&&decide (Zr (apA a b c L s)=1)):=by rw[hp.out]
   obtain⟨q0,q1,q2,q3,q4⟩:=Zh3 hr;have g0:=Zet q0;have g1:=Zet q1;have g2:=Zet q2;have g3:=Zet q3;have g4:=Zet q4;have gu:=Zet Do;clear HP hs;by_cases Hr:s.length=m.toNat
   ·have Ax:((s.length:Int)==m)=true:=beq_iff_eq.2 (by omega);by_cases hv:Zr (apA a b c L s)=1
    ·have HN:Hid (S++[s]=(C.take (i+1)).filter p):=(by show _=_;rw[HN0.out,Qh,decide_eq_true Hr,decide_eq_true hv];rfl);rw[hv] at J7;clear HN0 Qh hv Hr;go_wp2;refine ZeG 18 (by kernel_rfl) ?_;refine ZeB [0,1,2,3,4,5,6,7,8,9,10,11,12,13,14] (by kernel_rfl) (by kernel_rfl) ?_;simp only[ZeD,List.getElem?_cons_succ,List.getElem?_cons_zero,List.cons_append,List.nil_append]
     repeat (go_big_quiet_step (fail))
     refine wpQuiet_nil ?_;refine ZeX 15 (f:=89) (args:= #[.agg #[.int .i64 a,.int .i64 b,.int .i64 c,.int .i64 m,.slice base n cap],.slice ad s.length cp]) (v:= .int .i64 1) (by kernel_rfl) rfl (by kernel_rfl) rfl (fun W=>by simp[go_sem,execOp,Act.eval]) (J7) ?_;go_simp;refine ZeB [16,17] (by kernel_rfl) (by kernel_rfl) ?_;simp only[ZeD,List.getElem?_cons_succ,List.getElem?_cons_zero,List.cons_append,List.nil_append]
     repeat (go_big_quiet_step (fail))
     refine wpQuiet_nil ?_;refine Zf6 (by kernel_rfl) (fun W hW=> ?_);have Ag:=hE.trans hW;have Hl:=hS.ext hW;have O7:=hW.cellS Do;have hu3:=Ci.ext hW;clear hW hE hS Do gu q0 q1 q2 q3 q4 g0 g1 g2 g3 g4 hr J7 Ci
     go_wp2_with (
      at_builtin
      refine wpList_plain rfl fun K hK=> ?_
      refine ZhP _ _ rfl w.heap.size u5 S rfl (Hl.ext ((Ext.rfl' W).alloc _)) W.heap.size (.slice ad s.length cp) s rfl (Zhw W _ 27).1 (hu3.ext ((Ext.rfl' W).alloc _)) (by omega) (by have h1:=Bg.size;have h2:=Ag.size;simp only[Z2];omega) (fun g' cp' W8 U2 Qe K5 Or=>hK _ _ ?_);have H1:Ext w1 W8:=(Ag.alloc _).grown Qe Ec;have hob8:∀q,(some g':Option Nat)=some q->w1.heap.size<=q:=by
       intro q hq;have Th:g'=q:=Option.some.inj hq;rcases K5 with h|h
       ·exact Ec q (by rw[h,Th])
       ·have h2:=Ag.size;rw[Z2] at h;omega)
     exact⟨⟨i+1,S++[s],by omega,by push_cast;rfl,H1,by simpa using U2,hob8,HN⟩,by simp[intOf];omega⟩
    ·have HN:Hid (S=(C.take (i+1)).filter p):=(by show _=_;rw[HN0.out,Qh,decide_eq_true Hr,decide_eq_false hv];simp);generalize Zr (apA a b c L s)=mv at J7 hv;have hmv:(mv==1)=false:=beq_eq_false_iff_ne.2 hv;clear HN0 Qh Ci Hr;go_wp2;refine ZeG 18 (by kernel_rfl) ?_;refine ZeB [0,1,2,3,4,5,6,7,8,9,10,11,12,13,14] (by kernel_rfl) (by kernel_rfl) ?_;simp only[ZeD,List.getElem?_cons_succ,List.getElem?_cons_zero,List.cons_append,List.nil_append]
     repeat (go_big_quiet_step (fail))
     refine wpQuiet_nil ?_;refine ZeX 15 (f:=89) (args:= #[.agg #[.int .i64 a,.int .i64 b,.int .i64 c,.int .i64 m,.slice base n cap],.slice ad s.length cp]) (v:= .int .i64 mv) (by kernel_rfl) rfl (by kernel_rfl) rfl (fun W=>by simp[go_sem,execOp,Act.eval]) (J7) ?_;go_simp;refine ZeB [16,17] (by kernel_rfl) (by kernel_rfl) ?_;simp only[ZeD,List.getElem?_cons_succ,List.getElem?_cons_zero,List.cons_append,List.nil_append]
     repeat (go_big_quiet_step (fail))
     refine wpQuiet_nil ?_;refine Zf6 (by kernel_rfl) (fun W hW=> ?_);have Ag:=hE.trans hW;have Hl:=hS.ext hW;clear hW hE hS Do gu q0 q1 q2 q3 q4 g0 g1 g2 g3 g4 hr J7;go_wp2;exact⟨⟨i+1,S,by omega,by push_cast;rfl,Ag,Hl,Ec,HN⟩,by simp[intOf];omega⟩
   ·have Ax:((s.length:Int)==m)=false:=beq_eq_false_iff_ne.2 (by omega);have HN:Hid (S=(C.take (i+1)).filter p):=(by show _=_;rw[HN0.out,Qh,decide_eq_false Hr];simp);clear HN0 Qh Ci J7 Hr;go_wp2;refine ZeG 18 (by kernel_rfl) ?_;refine ZeB [0,1,2,3,4,5,6,7,8,9,10,11,12,13,14] (by kernel_rfl) (by kernel_rfl) ?_;simp only[ZeD,List.getElem?_cons_succ,List.getElem?_cons_zero,List.cons_append,List.nil_append]
    repeat (go_big_quiet_step (fail))
    refine wpQuiet_nil ?_;refine Zg4 15 (by kernel_rfl) rfl (by kernel_rfl) rfl ?_;go_simp;refine ZeB [16,17] (by kernel_rfl) (by kernel_rfl) ?_;simp only[ZeD,List.getElem?_cons_succ,List.getElem?_cons_zero,List.cons_append,List.nil_append]
    repeat (go_big_quiet_step (fail))
    refine wpQuiet_nil ?_;refine Zf6 (by kernel_rfl) (fun W hW=> ?_);have Ag:=hE.trans hW;have Hl:=hS.ext hW;clear hW hE hS Do gu q0 q1 q2 q3 q4 g0 g1 g2 g3 g4 hr;go_wp2;exact⟨⟨i+1,S,by omega,by push_cast;rfl,Ag,Hl,Ec,HN⟩,by simp[intOf];omega⟩
end Go.Proofs.Tryq
