import Derived.Test.YtedkbdkbbnemlaaGreatDoorNk28
set_option linter.all false
namespace Go.Proofs.Tryq
set_option maxRecDepth 100000
set_option maxHeartbeats 2000000
open Go Go.Nk Go.RowKit
theorem Z70(s:ByteArray)(w:World)(hs:s.size≤maxLen):Calls prog 94 #[.string s] w fun e w'=>e= .returned (.bool (Z2d s))∧w'=w:=by
 unfold maxLen at hs
 by_cases hsz:1≤s.size∧s.size≤12
 ·have hpos:0<s.size:=by omega
  have hN:Z2d s=(Z8N (s[0].toNat:Int)&& !s.data.toList.any ZM):=by
   rw[Z2d,Z5A s hpos,decide_eq_true hsz,Bool.true_and]
  rw[hN]
  clear hN
  have hb0:(0:Int)≤(s[0].toNat:Int):=by omega
  have hb1:(s[0].toNat:Int)<256:=by have:=s[0].toNat_lt;omega
  have hs1:(1:Int)≤(s.size:Int):=by omega
  have hs2:(s.size:Int)≤12:=by omega
  clear hsz
  have hbs:=fun w=>Z4r (s.size:Int) 1 12 w
  rw[decide_eq_true (show(1:Int)≤s.size∧(s.size:Int)≤12 from⟨hs1,hs2⟩)] at hbs
  have hbl:=fun w=>Z4s s[0] w
  cases hl:Z8N (s[0].toNat:Int) with
  |false=>
   rw[hl] at hbl
   clear hl hs1 hs2
   go_enter func94,ntmps94
   go_wp2_with (first
    |(go_at_call 93;(with_reducible refine(hbs _).mono ?_);rintro e w ⟨rfl,rfl⟩)
    |(go_at_call 139;(with_reducible refine(hbl _).mono ?_);rintro e w ⟨rfl,rfl⟩))
   go_ret
   exact⟨rfl,rfl⟩
  |true=>
   rw[hl] at hbl
   rw[Bool.true_and]
   clear hl
   have H:Hid ((s.data.toList.drop 0).any ZM=s.data.toList.any ZM):=rfl
   go_enter func94,ntmps94
   go_wp2_with (first
    |(go_at_call 93;(with_reducible refine(hbs _).mono ?_);rintro e w ⟨rfl,rfl⟩)
    |(go_at_call 139;(with_reducible refine(hbl _).mono ?_);rintro e w ⟨rfl,rfl⟩))
   go_loopw [3] (fun v wr=>∃i:Nat,i≤s.size∧v= .int .i64 i∧wr=w∧Hid ((s.data.toList.drop i).any ZM=s.data.toList.any ZM)) (fun v _=>s.size - (intOf v).toNat)
   case atStart=>exact⟨0,Nat.zero_le _,rfl,rfl,H⟩
   case round=>
    obtain⟨i,hi,rfl,rfl,hH⟩:=hrel
    clear H hbl hbs
    by_cases hin:i=s.size
    ·have hz:s.data.toList.any ZM=false:=by
      rw[←hH.out,List.drop_of_length_le (by rw[Array.length_toList];exact Nat.le_of_eq hin.symm)];rfl
     clear hH
     have hin2:(i:Int)=(s.size:Int):=by omega
     go_wp2
     go_ret
     exact⟨ZP (a:=true) (by rw[hz];rfl),rfl⟩
    ·have hlt:i<s.size:=by omega
     have hx:s.data.toList[i]? =some s[i]:=by rw[Array.getElem?_toList];exact Array.getElem?_eq_getElem hlt
     have hst:Hid (s.data.toList.any ZM=(ZM s[i]||(s.data.toList.drop (i+1)).any ZM)):=by show _=_;rw[←hH.out,Z0b hx,List.any_cons]
     clear hH
     have hbl:=fun w=>Z4s s[i] w
     have hbd:=fun w=>ZaO s[i] w
     have hi0:(0:Int)≤(i:Int):=by omega
     have hiL:(i:Int)<(s.size:Int):=by omega
     have go_on:∀{v:Nat→Nat},ZM s[i]=false→Hid ((s.data.toList.drop (i+1)).any ZM=s.data.toList.any ZM):=fun hb=>by show _=_;rw[hst.out,hb,Bool.false_or]
     have hbad:ZM s[i]=(!Z8N (s[i].toNat:Int)&& !Ze0 (s[i].toNat:Int)):=rfl
     cases h1:Z8N (s[i].toNat:Int) with
     |true=>
      rw[h1] at hbl hbad
      have hg:=go_on (v:=id) hbad
      clear h1 go_on hbad hst
      go_wp2_with (first
       |(go_at_call 139;(with_reducible refine(hbl _).mono ?_);rintro e w ⟨rfl,rfl⟩))
      exact⟨⟨i+1,by omega,by push_cast;rfl,trivial,hg⟩,by simp[intOf];omega⟩
     |false=>
      rw[h1] at hbl hbad
      cases h2:Ze0 (s[i].toNat:Int) with
      |true=>
       rw[h2] at hbd hbad
       have hg:=go_on (v:=id) hbad
       clear h1 h2 go_on hbad hst
       go_wp2_with (first
        |(go_at_call 139;(with_reducible refine(hbl _).mono ?_);rintro e w ⟨rfl,rfl⟩)
        |(go_at_call 140;(with_reducible refine(hbd _).mono ?_);rintro e w ⟨rfl,rfl⟩))
       exact⟨⟨i+1,by omega,by push_cast;rfl,trivial,hg⟩,by simp[intOf];omega⟩
      |false=>
       rw[h2] at hbd hbad
       have hz:s.data.toList.any ZM=true:=by rw[hst.out,hbad];rfl
       clear h1 h2 go_on hbad hst
       go_wp2_with (first
        |(go_at_call 139;(with_reducible refine(hbl _).mono ?_);rintro e w ⟨rfl,rfl⟩)
        |(go_at_call 140;(with_reducible refine(hbd _).mono ?_);rintro e w ⟨rfl,rfl⟩))
       go_ret
       exact⟨ZP (a:=false) (by rw[hz];rfl),rfl⟩
 ·have hN:Z2d s=false:=by rw[Z2d,decide_eq_false hsz];rfl
  rw[hN]
  have hd:decide (1≤(s.size:Int)∧(s.size:Int)≤12)=false:=decide_eq_false (by omega)
  have hbt:=fun w=>Z4r (s.size:Int) 1 12 w
  rw[hd] at hbt
  clear hN hd
  go_enter func94,ntmps94
  go_wp2_with (first
   |(go_at_call 93;refine(hbt _).mono ?_;rintro e w ⟨rfl,rfl⟩))
  go_ret
  exact⟨rfl,rfl⟩
end Go.Proofs.Tryq
namespace Go.Proofs.Tryq
open Go Go.Nk Go.RowKit
end Go.Proofs.Tryq
namespace Go.Proofs.Tryq
set_option maxRecDepth 100000
set_option maxHeartbeats 4000000
open Go Go.Nk Go.RowKit
theorem ZdG{x y:Sf}(h:nmL x=nmL y):x.nm=y.nm:=by
 have h2:x.nm.data=y.nm.data:=Array.toList_inj.1 h
 cases hx:x.nm;cases hy:y.nm
 rw[hx,hy] at h2
 simp at h2
 rw[h2]
theorem Z71{s t:ByteArray}(h:s.toList=t.toList):s=t:=by
 rw[ByteArray.toList_eq,ByteArray.toList_eq] at h
 cases s;cases t
 simp at h
 rw[h]
theorem Z1P(a b c m:Int)(base:Option Addr)(n cap:Nat)(L:List Sf)(w:World)(hlen:L.length=n)(hn20:n≤1000000)(hS:RawA w base L):
 Calls prog 26 #[.agg #[.int .i64 a,.int .i64 b,.int .i64 c,.int .i64 m,.slice base n cap]] w fun e w'=>e= .returned (.int .i64 (Zp a b c m L))∧Ext w w':=by
 have hr:∀n hi w,Calls prog 93 #[.int .i64 n,.int .i64 0,.int .i64 hi] w fun e w'=>e= .returned (.bool (okA n hi))∧w'=w:=fun n hi w=>Z4r n 0 hi w
 have hr1:=fun w=>hr a 9999 w;have hr2:=fun w=>hr b 9999 w;have hr3:=fun w=>hr c 9999 w;have hr4:=fun w=>Z4r m 2 4 w
 clear hr
 by_cases hR:Z2J a b c m=0
 ·have hRt:okA a 9999=true∧okA b 9999=true∧okA c 9999=true∧decide (2≤m∧m≤4)=true:=by
   unfold Z2J at hR
   split at hR
   ·rename_i h;simp only[Bool.and_eq_true] at h;exact⟨h.1.1.1,h.1.1.2,h.1.2,h.2⟩
   ·cases hR
  simp only[hRt.1] at hr1;simp only[hRt.2.1] at hr2;simp only[hRt.2.2.1] at hr3;simp only[hRt.2.2.2] at hr4
  have hF:Hid (Zp a b c m L=Zj L):=by
   show _=_
   rw[Zp,firstV,if_pos hR]
   simp only[firstV]
   split
   ·rename_i h;exact h.symm
   ·rfl
  clear hR hRt
  by_cases h9:9<L.length
  ·have H:Hid (Zp a b c m L=2):=by show _=_;rw[hF.out,Zj,if_pos h9]
   have hn9:(9:Int)<(n:Int):=by omega
   clear h9 hF
   go_enter func26,ntmps26
   go_wp2_with (first
    |(go_at_call 93;(with_reducible refine(hr1 _).mono ?_);rintro e w2 ⟨rfl,rfl⟩)
    |(go_at_call 93;(with_reducible refine(hr2 _).mono ?_);rintro e w2 ⟨rfl,rfl⟩)
    |(go_at_call 93;(with_reducible refine(hr3 _).mono ?_);rintro e w2 ⟨rfl,rfl⟩)
    |(go_at_call 93;(with_reducible refine(hr4 _).mono ?_);rintro e w2 ⟨rfl,rfl⟩))
   go_ret
   exact⟨ZK (a:=2) H.out.symm,((Ext.rfl' w).alloc _).alloc _⟩
  ·have H:Hid (Zp a b c m L=shA ((L.take 0).map nmL) (L.drop 0)):=by show _=_;rw[hF.out,Zj,if_neg h9];rfl
   have hn9:(n:Int)≤9:=by omega
   clear h9 hF
   go_enter func26,ntmps26
   go_wp2_with (first
    |(go_at_call 93;(with_reducible refine(hr1 _).mono ?_);rintro e w2 ⟨rfl,rfl⟩)
    |(go_at_call 93;(with_reducible refine(hr2 _).mono ?_);rintro e w2 ⟨rfl,rfl⟩)
    |(go_at_call 93;(with_reducible refine(hr3 _).mono ?_);rintro e w2 ⟨rfl,rfl⟩)
    |(go_at_call 93;(with_reducible refine(hr4 _).mono ?_);rintro e w2 ⟨rfl,rfl⟩))
   clear hr1 hr2 hr3 hr4
   have hE0:=((Ext.rfl' w).alloc (.cells #[.int .i64 a,.int .i64 b,.int .i64 c,.int .i64 m,.slice base n cap] 26)).alloc (.cells #[.int .i64 a,.int .i64 b,.int .i64 c,.int .i64 m] 23)
   go_loopw [4] (fun v wr=>∃i:Nat,i≤n∧v= .int .i64 i∧wr.heap[w.heap.size]? =some (.cells #[.int .i64 a,.int .i64 b,.int .i64 c,.int .i64 m,.slice base n cap] 26)∧Ext w wr∧Hid (Zp a b c m L=shA ((L.take i).map nmL) (L.drop i))) (fun v _=>n - (intOf v).toNat)
   case atStart=>exact⟨0,Nat.zero_le _,rfl,by simp only[Z3,Z2];rw[if_neg (by omega),if_pos trivial],hE0,H⟩
   case round=>
    obtain⟨i,hi,rfl,hr,hE,hH⟩:=hrel
    clear hE0 H
    have q4:=Z0 hr 4
    simp only[List.getElem?_toArray,List.getElem?_cons_zero,List.getElem?_cons_succ] at q4
    have hlr:=Z5 hr
    by_cases hin:i=n
    ·subst hin
     have hz:Hid (Zp a b c m L=0):=by show _=_;rw[hH.out,←hlen,List.drop_length];rfl
     clear hH
     go_wp2
     go_ret
     exact⟨ZK (a:=0) hz.out.symm,hE⟩
    ·have hlt:i<n:=by omega
     obtain⟨x,hx⟩:∃x,L[i]? =some x:=⟨_,List.getElem?_eq_getElem (by omega)⟩
     have hst:Hid (Zp a b c m L=if Z2d x.nm=false then 4 else if nmL x∈(L.take i).map nmL then 5 else if Z8b x=false then 1 else shA ((L.take (i+1)).map nmL) (L.drop (i+1))):=by
      show _=_
      rw[hH.out,Z0b hx,shA,Z0G hx,List.map_append]
      rfl
     have hS2:=hS.ext hE
     obtain⟨b',off,rfl,hb,⟨k0,k1,k2,k3,k4,k5,k6⟩,hnm⟩:=hS2 i x hx
     have hnc:=fun w=>Z70 x.nm w hnm
     have hi0:(0:Int)≤(i:Int):=by omega
     cases hnb:Z2d x.nm
     ·have hres:Hid (Zp a b c m L=4):=by show _=_;rw[hst.out,if_pos hnb]
      rw[hnb] at hnc
      clear hnb hst hH hx
      go_wp2_with (first
       |(go_at_call 94;refine(hnc _).mono ?_;rintro e w2 ⟨rfl,rfl⟩))
      go_ret
      exact⟨ZK (a:=4) hres.out.symm,hE.alloc _⟩
     ·rw[hnb] at hnc
      have hst2:Hid (Zp a b c m L=if nmL x∈(L.take i).map nmL then 5 else if Z8b x=false then 1 else shA ((L.take (i+1)).map nmL) (L.drop (i+1))):=by show _=_;rw[hst.out,if_neg (by rw[hnb];simp)]
      clear hst hH hnb
      go_wp2_with (first
       |(go_at_call 94;refine(hnc _).mono ?_;rintro e w2 ⟨rfl,hw2⟩;subst hw2))
      have hE5:=hE.alloc (.cells #[.string x.nm,.int .i64 x.a0,.int .i64 x.a1,.int .i64 x.b0,.int .i64 x.b1,.int .i64 x.c0,.int .i64 x.c1] 51)
      have hB5:(wr.alloc (.cells #[.string x.nm,.int .i64 x.a0,.int .i64 x.a1,.int .i64 x.b0,.int .i64 x.b1,.int .i64 x.c0,.int .i64 x.c1] 51)).heap[wr.heap.size]? =some (.cells #[.string x.nm,.int .i64 x.a0,.int .i64 x.a1,.int .i64 x.b0,.int .i64 x.b1,.int .i64 x.c0,.int .i64 x.c1] 51):=by rw[Z3,if_pos rfl]
      have hr5:=((Ext.rfl' wr).alloc (.cells #[.string x.nm,.int .i64 x.a0,.int .i64 x.a1,.int .i64 x.b0,.int .i64 x.b1,.int .i64 x.c0,.int .i64 x.c1] 51)).get hr
      have HN:Hid (nmL x∈(L.take i).map nmL↔nmL x∈((L.take i).drop 0).map nmL):=Iff.rfl
      clear hnc k0 k1 k2 k3 k4 k5 k6 hr q4
      have hS3:=hS2.ext ((Ext.rfl' wr).alloc (.cells #[.string x.nm,.int .i64 x.a0,.int .i64 x.a1,.int .i64 x.b0,.int .i64 x.b1,.int .i64 x.c0,.int .i64 x.c1] 51))
      generalize World.alloc wr _=V at hS3 hE5 hB5 hr5⊢
      obtain⟨wo,rfl⟩:∃wo:World,wo=wr:=⟨_,rfl⟩
      go_loopw [6] (fun v wi=>∃k:Nat,k≤i∧v= .int .i64 k∧Ext V wi∧Hid (nmL x∈(L.take i).map nmL↔nmL x∈((L.take i).drop k).map nmL)) (fun v _=>i - (intOf v).toNat)
      case atStart=>exact⟨0,Nat.zero_le _,rfl,Ext.rfl' V,HN⟩
      case round=>
       obtain⟨k,hk,rfl,hEk,hHk⟩:=hrel
       clear HN
       have hrk:=hEk.get hr5
       have hBk:=hEk.get hB5
       have q4:=Z0 hrk 4
       simp only[List.getElem?_toArray,List.getElem?_cons_zero,List.getElem?_cons_succ] at q4
       by_cases hki:k=i
       ·subst hki
        have hnot:¬nmL x∈(L.take k).map nmL:=by rw[hHk.out,List.drop_of_length_le (by rw[List.length_take];omega)];simp
        have hst3:Hid (Zp a b c m L=if Z8b x=false then 1 else shA ((L.take (k+1)).map nmL) (L.drop (k+1))):=by show _=_;rw[hst2.out,if_neg hnot]
        have y1:=Z0 hBk 1;have y2:=Z0 hBk 2;have y3:=Z0 hBk 3;have y4:=Z0 hBk 4;have y5:=Z0 hBk 5;have y6:=Z0 hBk 6
        simp only[List.getElem?_toArray,List.getElem?_cons_zero,List.getElem?_cons_succ] at y1 y2 y3 y4 y5 y6
        have hi1:∀w,Calls prog 95 #[.agg #[.int .i64 x.a0,.int .i64 x.a1],.int .i64 0,.int .i64 9999] w fun e w'=>e= .returned (.bool (ZF (spA x 0)))∧Ext w w':=fun w=>Z2e x.a0 x.a1 0 9999 w
        have hi2:∀w,Calls prog 95 #[.agg #[.int .i64 x.b0,.int .i64 x.b1],.int .i64 0,.int .i64 9999] w fun e w'=>e= .returned (.bool (ZF (spA x 1)))∧Ext w w':=fun w=>Z2e x.b0 x.b1 0 9999 w
        have hi3:∀w,Calls prog 95 #[.agg #[.int .i64 x.c0,.int .i64 x.c1],.int .i64 0,.int .i64 9999] w fun e w'=>e= .returned (.bool (ZF (spA x 2)))∧Ext w w':=fun w=>Z2e x.c0 x.c1 0 9999 w
        have hok:Z8b x=(ZF (spA x 0)&&ZF (spA x 1)&&ZF (spA x 2)):=rfl
        have hEo:=hE5.trans hEk
        have hB0:=hBk
        have hR0:=hrk
        clear hst2 hHk hnot hx hB5 hEk
        cases h1:ZF (spA x 0) with
        |false=>
         simp only[h1] at hi1
         have hres:Hid (Zp a b c m L=1):=by show _=_;rw[hst3.out,if_pos (by rw[hok,h1];simp)]
         clear hst3 hok
         go_wp2_with (first
          |(go_at_call 95;(with_reducible refine(hi1 _).mono ?_);rintro e w2 ⟨rfl,hE2⟩;replace hEo:=hEo.trans hE2;replace hB0:=hE2.get hB0;replace hR0:=hE2.get hR0;clear hE2 y1 y2 y3 y4 y5 y6;have y1:=Z0 hB0 1;have y2:=Z0 hB0 2;have y3:=Z0 hB0 3;have y4:=Z0 hB0 4;have y5:=Z0 hB0 5;have y6:=Z0 hB0 6;simp only[List.getElem?_toArray,List.getElem?_cons_zero,List.getElem?_cons_succ] at y1 y2 y3 y4 y5 y6)
          |(go_at_call 95;(with_reducible refine(hi2 _).mono ?_);rintro e w2 ⟨rfl,hE2⟩;replace hEo:=hEo.trans hE2;replace hB0:=hE2.get hB0;replace hR0:=hE2.get hR0;clear hE2 y1 y2 y3 y4 y5 y6;have y1:=Z0 hB0 1;have y2:=Z0 hB0 2;have y3:=Z0 hB0 3;have y4:=Z0 hB0 4;have y5:=Z0 hB0 5;have y6:=Z0 hB0 6;simp only[List.getElem?_toArray,List.getElem?_cons_zero,List.getElem?_cons_succ] at y1 y2 y3 y4 y5 y6)
          |(go_at_call 95;(with_reducible refine(hi3 _).mono ?_);rintro e w2 ⟨rfl,hE2⟩;replace hEo:=hEo.trans hE2;replace hB0:=hE2.get hB0;replace hR0:=hE2.get hR0;clear hE2 y1 y2 y3 y4 y5 y6;have y1:=Z0 hB0 1;have y2:=Z0 hB0 2;have y3:=Z0 hB0 3;have y4:=Z0 hB0 4;have y5:=Z0 hB0 5;have y6:=Z0 hB0 6;simp only[List.getElem?_toArray,List.getElem?_cons_zero,List.getElem?_cons_succ] at y1 y2 y3 y4 y5 y6))
         go_ret
         exact⟨ZK (a:=1) hres.out.symm,hEo⟩
        |true=>
         simp only[h1] at hi1
         cases h2:ZF (spA x 1) with
         |false=>
          simp only[h2] at hi2
          have hres:Hid (Zp a b c m L=1):=by show _=_;rw[hst3.out,if_pos (by rw[hok,h1,h2];simp)]
          clear hst3 hok
          go_wp2_with (first
           |(go_at_call 95;(with_reducible refine(hi1 _).mono ?_);rintro e w2 ⟨rfl,hE2⟩;replace hEo:=hEo.trans hE2;replace hB0:=hE2.get hB0;replace hR0:=hE2.get hR0;clear hE2 y1 y2 y3 y4 y5 y6;have y1:=Z0 hB0 1;have y2:=Z0 hB0 2;have y3:=Z0 hB0 3;have y4:=Z0 hB0 4;have y5:=Z0 hB0 5;have y6:=Z0 hB0 6;simp only[List.getElem?_toArray,List.getElem?_cons_zero,List.getElem?_cons_succ] at y1 y2 y3 y4 y5 y6)
           |(go_at_call 95;(with_reducible refine(hi2 _).mono ?_);rintro e w2 ⟨rfl,hE2⟩;replace hEo:=hEo.trans hE2;replace hB0:=hE2.get hB0;replace hR0:=hE2.get hR0;clear hE2 y1 y2 y3 y4 y5 y6;have y1:=Z0 hB0 1;have y2:=Z0 hB0 2;have y3:=Z0 hB0 3;have y4:=Z0 hB0 4;have y5:=Z0 hB0 5;have y6:=Z0 hB0 6;simp only[List.getElem?_toArray,List.getElem?_cons_zero,List.getElem?_cons_succ] at y1 y2 y3 y4 y5 y6)
           |(go_at_call 95;(with_reducible refine(hi3 _).mono ?_);rintro e w2 ⟨rfl,hE2⟩;replace hEo:=hEo.trans hE2;replace hB0:=hE2.get hB0;replace hR0:=hE2.get hR0;clear hE2 y1 y2 y3 y4 y5 y6;have y1:=Z0 hB0 1;have y2:=Z0 hB0 2;have y3:=Z0 hB0 3;have y4:=Z0 hB0 4;have y5:=Z0 hB0 5;have y6:=Z0 hB0 6;simp only[List.getElem?_toArray,List.getElem?_cons_zero,List.getElem?_cons_succ] at y1 y2 y3 y4 y5 y6))
          go_ret
          exact⟨ZK (a:=1) hres.out.symm,hEo⟩
         |true=>
          simp only[h2] at hi2
          cases h3:ZF (spA x 2) with
          |false=>
           simp only[h3] at hi3
           have hres:Hid (Zp a b c m L=1):=by show _=_;rw[hst3.out,if_pos (by rw[hok,h1,h2,h3];simp)]
           clear hst3 hok
           go_wp2_with (first
            |(go_at_call 95;(with_reducible refine(hi1 _).mono ?_);rintro e w2 ⟨rfl,hE2⟩;replace hEo:=hEo.trans hE2;replace hB0:=hE2.get hB0;replace hR0:=hE2.get hR0;clear hE2 y1 y2 y3 y4 y5 y6;have y1:=Z0 hB0 1;have y2:=Z0 hB0 2;have y3:=Z0 hB0 3;have y4:=Z0 hB0 4;have y5:=Z0 hB0 5;have y6:=Z0 hB0 6;simp only[List.getElem?_toArray,List.getElem?_cons_zero,List.getElem?_cons_succ] at y1 y2 y3 y4 y5 y6)
            |(go_at_call 95;(with_reducible refine(hi2 _).mono ?_);rintro e w2 ⟨rfl,hE2⟩;replace hEo:=hEo.trans hE2;replace hB0:=hE2.get hB0;replace hR0:=hE2.get hR0;clear hE2 y1 y2 y3 y4 y5 y6;have y1:=Z0 hB0 1;have y2:=Z0 hB0 2;have y3:=Z0 hB0 3;have y4:=Z0 hB0 4;have y5:=Z0 hB0 5;have y6:=Z0 hB0 6;simp only[List.getElem?_toArray,List.getElem?_cons_zero,List.getElem?_cons_succ] at y1 y2 y3 y4 y5 y6)
            |(go_at_call 95;(with_reducible refine(hi3 _).mono ?_);rintro e w2 ⟨rfl,hE2⟩;replace hEo:=hEo.trans hE2;replace hB0:=hE2.get hB0;replace hR0:=hE2.get hR0;clear hE2 y1 y2 y3 y4 y5 y6;have y1:=Z0 hB0 1;have y2:=Z0 hB0 2;have y3:=Z0 hB0 3;have y4:=Z0 hB0 4;have y5:=Z0 hB0 5;have y6:=Z0 hB0 6;simp only[List.getElem?_toArray,List.getElem?_cons_zero,List.getElem?_cons_succ] at y1 y2 y3 y4 y5 y6))
           go_ret
           exact⟨ZK (a:=1) hres.out.symm,hEo⟩
          |true=>
           simp only[h3] at hi3
           have hres:Hid (Zp a b c m L=shA ((L.take (k+1)).map nmL) (L.drop (k+1))):=by show _=_;rw[hst3.out,if_neg (by rw[hok,h1,h2,h3];simp)]
           clear hst3 hok
           go_wp2_with (first
            |(go_at_call 95;(with_reducible refine(hi1 _).mono ?_);rintro e w2 ⟨rfl,hE2⟩;replace hEo:=hEo.trans hE2;replace hB0:=hE2.get hB0;replace hR0:=hE2.get hR0;clear hE2 y1 y2 y3 y4 y5 y6;have y1:=Z0 hB0 1;have y2:=Z0 hB0 2;have y3:=Z0 hB0 3;have y4:=Z0 hB0 4;have y5:=Z0 hB0 5;have y6:=Z0 hB0 6;simp only[List.getElem?_toArray,List.getElem?_cons_zero,List.getElem?_cons_succ] at y1 y2 y3 y4 y5 y6)
            |(go_at_call 95;(with_reducible refine(hi2 _).mono ?_);rintro e w2 ⟨rfl,hE2⟩;replace hEo:=hEo.trans hE2;replace hB0:=hE2.get hB0;replace hR0:=hE2.get hR0;clear hE2 y1 y2 y3 y4 y5 y6;have y1:=Z0 hB0 1;have y2:=Z0 hB0 2;have y3:=Z0 hB0 3;have y4:=Z0 hB0 4;have y5:=Z0 hB0 5;have y6:=Z0 hB0 6;simp only[List.getElem?_toArray,List.getElem?_cons_zero,List.getElem?_cons_succ] at y1 y2 y3 y4 y5 y6)
            |(go_at_call 95;(with_reducible refine(hi3 _).mono ?_);rintro e w2 ⟨rfl,hE2⟩;replace hEo:=hEo.trans hE2;replace hB0:=hE2.get hB0;replace hR0:=hE2.get hR0;clear hE2 y1 y2 y3 y4 y5 y6;have y1:=Z0 hB0 1;have y2:=Z0 hB0 2;have y3:=Z0 hB0 3;have y4:=Z0 hB0 4;have y5:=Z0 hB0 5;have y6:=Z0 hB0 6;simp only[List.getElem?_toArray,List.getElem?_cons_zero,List.getElem?_cons_succ] at y1 y2 y3 y4 y5 y6))
           exact⟨⟨k+1,by omega,by push_cast;rfl,hR0,hEo,hres⟩,by simp[intOf];omega⟩
       ·have hklt:k<i:=by omega
        obtain⟨y,hy⟩:∃y,L[k]? =some y:=⟨_,List.getElem?_eq_getElem (by omega)⟩
        obtain⟨b2,off2,he2,hb2,hky,hnmy⟩:=(hS3.ext hEk) k y hy
        obtain⟨rfl,rfl⟩:b'=b2∧off=off2:=by simpa using he2
        have hy0:=hky.1
        have hx0:=Z0 hBk 0
        simp only[List.getElem?_toArray,List.getElem?_cons_zero] at hx0
        have hkn:¬n≤k:=by omega
        have hin2:nmL x∈((L.take i).drop k).map nmL↔nmL x=nmL y∨nmL x∈((L.take i).drop (k+1)).map nmL:=by
         have hty:(L.take i)[k]? =some y:=by rw[List.getElem?_take,if_pos hklt];exact hy
         rw[Z0b hty,List.map_cons,List.mem_cons]
        go_wp2_with fail
        refine Z03 (by kernel_rfl) (by kernel_rfl) (RI 81 [some 56,some 57,some 58,some 59,some 60,some 61,some 62,some 63,some 64] [some (.pointer (some ⟨w.heap.size,4,none⟩)),some (.slice (some ⟨b',off,none⟩) n cap),some (.int .i64 k),some (.pointer (some ⟨b',off+k*7,none⟩)),some (.pointer (some ⟨b',off+k*7,none⟩)),some (.string y.nm),some (.pointer (some {block:=wo.heap.size,off:=0})),some (.string x.nm),some (.bool (y.nm.toList==x.nm.toList))] _ (Sxs wr [])) (RI.start rfl rfl (Sxs.start wr _ _)) (AllIx.arr ⟨?_,?_,?_,?_,?_,?_,?_,?_,?_,trivial⟩) ?_
        ·intro ℓ aq W hl hp h
         have e1:aq.tmps.getD 1 undef=Value.pointer (some {block:=w.heap.size,off:=0}):=h.at_out 1 rfl
         exact h.dg (hg:=Z4 rfl) (r:=by simp[go_sem,execOp,Act.eval,e1]) (m:=h.mem.k)
        ·intro ℓ aq W hl hp h
         have e56:=h.v hp 0 56
         have c0:=h.mem.1.cellS q4
         exact h.dg (hg:=Z4 rfl) (r:=by simp[go_sem,execOp,Act.eval,e56,c0]) (m:=h.mem.k)
        ·intro ℓ aq W hl hp h
         have e6:aq.tmps.getD 6 undef=Value.int IntKind.i64 (k:Int):=h.at_out 6 rfl
         exact h.dg (hg:=Z4 rfl) (r:=by simp[go_sem,execOp,Act.eval,e6]) (m:=h.mem.k)
        ·intro ℓ aq W hl hp h
         have e57:=h.v hp 1 57
         have e58:=h.v hp 2 58
         exact h.dg (hg:=Z4 rfl) (r:=by simp[go_sem,execOp,Act.eval,e57,e58,hkn]) (m:=h.mem.k)
        ·intro ℓ aq W hl hp h
         have e59:=h.v hp 3 59
         exact h.dg (hg:=Z4 rfl) (r:=by simp[go_sem,execOp,Act.eval,e59]) (m:=h.mem.k)
        ·intro ℓ aq W hl hp h
         have e60:=h.v hp 4 60
         have c0:=h.mem.1.cellS hy0
         exact h.dg (hg:=Z4 rfl) (r:=by simp[go_sem,execOp,Act.eval,e60,c0]) (m:=h.mem.k)
        ·intro ℓ aq W hl hp h
         have e5:aq.tmps.getD 5 undef=Value.pointer (some {block:=wo.heap.size,off:=0}):=h.at_out 5 rfl
         exact h.dg (hg:=Z4 rfl) (r:=by simp[go_sem,execOp,Act.eval,e5]) (m:=h.mem.k)
        ·intro ℓ aq W hl hp h
         have e62:=h.v hp 6 62
         have c0:=h.mem.1.cellS hx0
         exact h.dg (hg:=Z4 rfl) (r:=by simp[go_sem,execOp,Act.eval,e62,c0]) (m:=h.mem.k)
        ·intro ℓ aq W hl hp h
         have e61:=h.v hp 5 61
         have e63:=h.v hp 7 63
         exact h.dg (hg:=Z4 rfl) (r:=by simp[go_sem,execOp,Act.eval,e61,e63]) (m:=h.mem.k)
        ·intro ℓ aq W hall h
         have hEW:=h.mem.1
         have ea:=Z1z h.defers h.size
         simp only[List.range,List.range.loop,List.map] at ea
         rw[ea]
         clear ea
         rw[(show aq.tmps.getD 0 undef=Value.agg #[Value.int IntKind.i64 a,Value.int IntKind.i64 b,Value.int IntKind.i64 c,Value.int IntKind.i64 m,Value.slice (some {block:=b',off:=off}) n cap] from h.at_out 0 rfl),(show aq.tmps.getD 1 undef=Value.pointer (some {block:=w.heap.size,off:=0}) from h.at_out 1 rfl),(show aq.tmps.getD 2 undef=u2 from h.at_out 2 rfl),(show aq.tmps.getD 3 undef=Value.pointer (some {block:=w.heap.size+1,off:=0}) from h.at_out 3 rfl),(show aq.tmps.getD 4 undef=Value.int IntKind.i64 (i:Int) from h.at_out 4 rfl),(show aq.tmps.getD 5 undef=Value.pointer (some {block:=wo.heap.size,off:=0}) from h.at_out 5 rfl),(show aq.tmps.getD 6 undef=Value.int IntKind.i64 (k:Int) from h.at_out 6 rfl),(show aq.tmps.getD 7 undef=Value.pointer (some {block:=w.heap.size,off:=0}) from h.at_out 7 rfl),(show aq.tmps.getD 8 undef=Value.agg #[Value.int IntKind.i64 a,Value.int IntKind.i64 b,Value.int IntKind.i64 c,Value.int IntKind.i64 m] from h.at_out 8 rfl),(show aq.tmps.getD 9 undef=Value.pointer (some {block:=w.heap.size+1,off:=0}) from h.at_out 9 rfl),(show aq.tmps.getD 10 undef=Value.int IntKind.i64 a from h.at_out 10 rfl),(show aq.tmps.getD 11 undef=Value.bool true from h.at_out 11 rfl),(show aq.tmps.getD 12 undef=Value.bool false from h.at_out 12 rfl),(show aq.tmps.getD 13 undef=Value.bool false from h.at_out 13 rfl),(show aq.tmps.getD 14 undef=Value.pointer (some {block:=w.heap.size+1,off:=1}) from h.at_out 14 rfl),(show aq.tmps.getD 15 undef=Value.int IntKind.i64 b from h.at_out 15 rfl),(show aq.tmps.getD 16 undef=Value.bool true from h.at_out 16 rfl),(show aq.tmps.getD 17 undef=Value.bool false from h.at_out 17 rfl),(show aq.tmps.getD 18 undef=Value.bool false from h.at_out 18 rfl),(show aq.tmps.getD 19 undef=Value.bool false from h.at_out 19 rfl),(show aq.tmps.getD 20 undef=Value.pointer (some {block:=w.heap.size+1,off:=2}) from h.at_out 20 rfl),(show aq.tmps.getD 21 undef=Value.int IntKind.i64 c from h.at_out 21 rfl),(show aq.tmps.getD 22 undef=Value.bool true from h.at_out 22 rfl),(show aq.tmps.getD 23 undef=Value.bool false from h.at_out 23 rfl),(show aq.tmps.getD 24 undef=Value.bool false from h.at_out 24 rfl),(show aq.tmps.getD 25 undef=Value.bool false from h.at_out 25 rfl),(show aq.tmps.getD 26 undef=Value.pointer (some {block:=w.heap.size+1,off:=3}) from h.at_out 26 rfl),(show aq.tmps.getD 27 undef=Value.int IntKind.i64 m from h.at_out 27 rfl),(show aq.tmps.getD 28 undef=Value.bool true from h.at_out 28 rfl),(show aq.tmps.getD 29 undef=Value.bool false from h.at_out 29 rfl),(show aq.tmps.getD 30 undef=Value.bool false from h.at_out 30 rfl),(show aq.tmps.getD 31 undef=Value.pointer (some {block:=w.heap.size,off:=4}) from h.at_out 31 rfl),(show aq.tmps.getD 32 undef=Value.slice (some {block:=b',off:=off}) n cap from h.at_out 32 rfl),(show aq.tmps.getD 33 undef=Value.int IntKind.i64 (n:Int) from h.at_out 33 rfl),(show aq.tmps.getD 34 undef=Value.bool (decide (9<(n:Int))) from h.at_out 34 rfl),(show aq.tmps.getD 35 undef=Value.int IntKind.i64 (i:Int) from h.at_out 35 rfl),(show aq.tmps.getD 36 undef=Value.pointer (some {block:=w.heap.size,off:=4}) from h.at_out 36 rfl),(show aq.tmps.getD 37 undef=Value.slice (some {block:=b',off:=off}) n cap from h.at_out 37 rfl),(show aq.tmps.getD 38 undef=Value.int IntKind.i64 (n:Int) from h.at_out 38 rfl),(show aq.tmps.getD 39 undef=Value.bool true from h.at_out 39 rfl),(show aq.tmps.getD 40 undef=u40 from h.at_out 40 rfl),(show aq.tmps.getD 41 undef=u41 from h.at_out 41 rfl),(show aq.tmps.getD 42 undef=Value.pointer (some {block:=w.heap.size,off:=4}) from h.at_out 42 rfl),(show aq.tmps.getD 43 undef=Value.slice (some {block:=b',off:=off}) n cap from h.at_out 43 rfl),(show aq.tmps.getD 44 undef=Value.int IntKind.i64 (i:Int) from h.at_out 44 rfl),(show aq.tmps.getD 45 undef=Value.pointer (some {block:=b',off:=off+i*7}) from h.at_out 45 rfl),(show aq.tmps.getD 46 undef=Value.agg #[Value.string x.nm,Value.int IntKind.i64 x.a0,Value.int IntKind.i64 x.a1,Value.int IntKind.i64 x.b0,Value.int IntKind.i64 x.b1,Value.int IntKind.i64 x.c0,Value.int IntKind.i64 x.c1] from h.at_out 46 rfl),(show aq.tmps.getD 47 undef=Value.pointer (some {block:=wo.heap.size,off:=0}) from h.at_out 47 rfl),(show aq.tmps.getD 48 undef=Value.string x.nm from h.at_out 48 rfl),(show aq.tmps.getD 49 undef=Value.bool true from h.at_out 49 rfl),(show aq.tmps.getD 50 undef=Value.bool false from h.at_out 50 rfl),(show aq.tmps.getD 51 undef=Value.int IntKind.i64 (k:Int) from h.at_out 51 rfl),(show aq.tmps.getD 52 undef=Value.int IntKind.i64 (i:Int) from h.at_out 52 rfl),(show aq.tmps.getD 53 undef=Value.bool true from h.at_out 53 rfl),(show aq.tmps.getD 54 undef=u54 from h.at_out 54 rfl),(show aq.tmps.getD 55 undef=u55 from h.at_out 55 rfl),(show aq.tmps.getD 64 undef= .bool (y.nm.toList==x.nm.toList) from h.vals 8 64 _ rfl rfl (hall 8 (by decide))),(show aq.tmps.getD 65 undef=u65 from h.at_out 65 rfl),(show aq.tmps.getD 66 undef=u66 from h.at_out 66 rfl),(show aq.tmps.getD 67 undef=u67 from h.at_out 67 rfl),(show aq.tmps.getD 68 undef=u68 from h.at_out 68 rfl),(show aq.tmps.getD 69 undef=u69 from h.at_out 69 rfl),(show aq.tmps.getD 70 undef=u70 from h.at_out 70 rfl),(show aq.tmps.getD 71 undef=u71 from h.at_out 71 rfl),(show aq.tmps.getD 72 undef=u72 from h.at_out 72 rfl),(show aq.tmps.getD 73 undef=u73 from h.at_out 73 rfl),(show aq.tmps.getD 74 undef=u74 from h.at_out 74 rfl),(show aq.tmps.getD 75 undef=u75 from h.at_out 75 rfl),(show aq.tmps.getD 76 undef=u76 from h.at_out 76 rfl),(show aq.tmps.getD 77 undef=u77 from h.at_out 77 rfl),(show aq.tmps.getD 78 undef=u78 from h.at_out 78 rfl),(show aq.tmps.getD 79 undef=u79 from h.at_out 79 rfl),(show aq.tmps.getD 80 undef=u80 from h.at_out 80 rfl)]
         iterate 8 generalize aq.tmps.getD _ undef=ux
         clear h hall
         have hEk2:=hEk.trans hEW
         by_cases hxy:nmL x=nmL y
         ·have he:(y.nm.toList==x.nm.toList)=true:=by simp[ZdG hxy]
          have hres:Hid (Zp a b c m L=5):=by show _=_;rw[hst2.out,if_pos (hHk.out.2 (hin2.2 (.inl hxy)))]
          rw[he]
          clear he hst2 hHk hin2
          go_wp2
          go_ret
          exact⟨ZK (a:=5) hres.out.symm,hE5.trans hEk2⟩
         ·have he:(y.nm.toList==x.nm.toList)=false:=by
           rw[beq_eq_false_iff_ne]
           intro h
           exact hxy (by rw[nmL,nmL,(Z71 h).symm])
          have hH3:Hid (nmL x∈(L.take i).map nmL↔nmL x∈((L.take i).drop (k+1)).map nmL):=by show _↔_;rw[hHk.out,hin2];simp[hxy]
          rw[he]
          clear he hHk hin2
          go_wp2
          go_roundw
          case rel=>exact⟨k+1,by omega,by push_cast;rfl,hEk2,hH3⟩
          case measure=>simp[intOf];omega
 ·have hR1:Z2J a b c m=1:=by
   unfold Z2J at hR⊢
   split at hR
   ·exact absurd rfl hR
   ·rw[if_neg (by assumption)]
  have hF:Hid (Zp a b c m L=1):=by show _=_;rw[Zp,firstV,if_neg hR,hR1]
  have hRt:(okA a 9999&&okA b 9999&&okA c 9999&&decide (2≤m∧m≤4))=false:=by
   unfold Z2J at hR
   split at hR
   ·exact absurd rfl hR
   ·rename_i h;simpa using h
  clear hR hR1
  cases h1:okA a 9999 with
  |false=>
   simp only[h1] at hr1
   clear hRt h1
   go_enter func26,ntmps26
   go_wp2_with (first
    |(go_at_call 93;(with_reducible refine(hr1 _).mono ?_);rintro e w2 ⟨rfl,rfl⟩)
    |(go_at_call 93;(with_reducible refine(hr2 _).mono ?_);rintro e w2 ⟨rfl,rfl⟩)
    |(go_at_call 93;(with_reducible refine(hr3 _).mono ?_);rintro e w2 ⟨rfl,rfl⟩)
    |(go_at_call 93;(with_reducible refine(hr4 _).mono ?_);rintro e w2 ⟨rfl,rfl⟩))
   go_ret
   exact⟨ZK (a:=1) hF.out.symm,((Ext.rfl' w).alloc _).alloc _⟩
  |true=>
   simp only[h1] at hr1
   cases h2:okA b 9999 with
   |false=>
    simp only[h2] at hr2
    clear hRt h1 h2
    go_enter func26,ntmps26
    go_wp2_with (first
     |(go_at_call 93;(with_reducible refine(hr1 _).mono ?_);rintro e w2 ⟨rfl,rfl⟩)
     |(go_at_call 93;(with_reducible refine(hr2 _).mono ?_);rintro e w2 ⟨rfl,rfl⟩)
     |(go_at_call 93;(with_reducible refine(hr3 _).mono ?_);rintro e w2 ⟨rfl,rfl⟩)
     |(go_at_call 93;(with_reducible refine(hr4 _).mono ?_);rintro e w2 ⟨rfl,rfl⟩))
    go_ret
    exact⟨ZK (a:=1) hF.out.symm,((Ext.rfl' w).alloc _).alloc _⟩
   |true=>
    simp only[h2] at hr2
    cases h3:okA c 9999 with
    |false=>
     simp only[h3] at hr3
     clear hRt h1 h2 h3
     go_enter func26,ntmps26
     go_wp2_with (first
      |(go_at_call 93;(with_reducible refine(hr1 _).mono ?_);rintro e w2 ⟨rfl,rfl⟩)
      |(go_at_call 93;(with_reducible refine(hr2 _).mono ?_);rintro e w2 ⟨rfl,rfl⟩)
      |(go_at_call 93;(with_reducible refine(hr3 _).mono ?_);rintro e w2 ⟨rfl,rfl⟩)
      |(go_at_call 93;(with_reducible refine(hr4 _).mono ?_);rintro e w2 ⟨rfl,rfl⟩))
     go_ret
     exact⟨ZK (a:=1) hF.out.symm,((Ext.rfl' w).alloc _).alloc _⟩
    |true=>
     simp only[h3] at hr3
     have h4:decide (2≤m∧m≤4)=false:=by rw[h1,h2,h3] at hRt;simpa using hRt
     simp only[h4] at hr4
     clear hRt h1 h2 h3 h4
     go_enter func26,ntmps26
     go_wp2_with (first
      |(go_at_call 93;(with_reducible refine(hr1 _).mono ?_);rintro e w2 ⟨rfl,rfl⟩)
      |(go_at_call 93;(with_reducible refine(hr2 _).mono ?_);rintro e w2 ⟨rfl,rfl⟩)
      |(go_at_call 93;(with_reducible refine(hr3 _).mono ?_);rintro e w2 ⟨rfl,rfl⟩)
      |(go_at_call 93;(with_reducible refine(hr4 _).mono ?_);rintro e w2 ⟨rfl,rfl⟩))
     go_ret
     exact⟨ZK (a:=1) hF.out.symm,((Ext.rfl' w).alloc _).alloc _⟩
end Go.Proofs.Tryq
namespace Go.Proofs.Tryq
open Go Go.Nk Go.RowKit
end Go.Proofs.Tryq
namespace Go.Nk
open Go Go.Region
open Go.Proofs.Tryq (Ext Z3 Z2)
variable {i0 i1 t1 i2 t2 i3 t3 len:Nat} {w0:World} {C:Array Value} {ty:TypeId} {A:Value→World→Prop} {ℓ:Nat→Bool} {x:Tmp→Value} {w:World}
end Go.Nk
namespace Go.Proofs.Tryq
open Go Go.Nk Go.RowKit
end Go.Proofs.Tryq
namespace Go.Proofs.Tryq
set_option maxRecDepth 100000
set_option maxHeartbeats 2000000
open Go Go.Nk Go.RowKit
def Z1B(L:List Sf):Bool:=decide (20<L.length)||L.any fun x=>decide (100<x.nm.size)
theorem ZaR(a b c m:Int)(base:Option Addr)(n cap:Nat)(L:List Sf)(w:World)(hlen:L.length=n)(hS:RawA w base L):
 Calls prog 21 #[.agg #[.int .i64 a,.int .i64 b,.int .i64 c,.int .i64 m,.slice base n cap]] w fun e w'=>e= .returned (.bool (Z1B L))∧Ext w w':=by
 by_cases h20:20<L.length
 ·have hz:Z1B L=true:=by rw[Z1B,decide_eq_true h20,Bool.true_or]
  have hn:(20:Int)<(n:Int):=by omega
  rw[hz]
  clear h20 hz
  go_enter func21,ntmps21
  go_wp2
  go_ret
  exact⟨rfl,(Ext.rfl' w).alloc _⟩
 ·have hn:(n:Int)≤20:=by omega
  have H:Hid (Z1B L=(L.drop 0).any fun x=>decide (100<x.nm.size)):=by show _=_;rw[Z1B,decide_eq_false h20,Bool.false_or];rfl
  clear h20
  go_enter func21,ntmps21
  go_wp2
  go_loopw [3] (fun v wr=>∃i:Nat,i≤n∧v= .int .i64 i∧wr.heap[w.heap.size]? =some (.cells #[.int .i64 a,.int .i64 b,.int .i64 c,.int .i64 m,.slice base n cap] 26)∧Ext w wr∧Hid (Z1B L=(L.drop i).any fun x=>decide (100<x.nm.size))) (fun v _=>n - (intOf v).toNat)
  case atStart=>exact⟨0,Nat.zero_le _,rfl,by rw[Z3,if_pos rfl],(Ext.rfl' w).alloc _,H⟩
  case round=>
   obtain⟨i,hi,rfl,hr,hE,hH⟩:=hrel
   clear H
   have q4:=Z0 hr 4
   simp only[List.getElem?_toArray,List.getElem?_cons_zero,List.getElem?_cons_succ] at q4
   by_cases hin:i=n
   ·subst hin
    have hz:Z1B L=false:=by rw[hH.out,←hlen,List.drop_length];rfl
    go_wp2
    go_ret
    exact⟨ZP (a:=false) hz.symm,hE⟩
   ·have hlt:i<n:=by omega
    obtain⟨x,hx⟩:∃x,L[i]? =some x:=⟨_,List.getElem?_eq_getElem (by omega)⟩
    obtain⟨b',off,rfl,hb,hs,hnm⟩:=(hS.ext hE) i x hx
    have k0:=hs.1
    have hst:Hid (Z1B L=(decide (100<x.nm.size)||(L.drop (i+1)).any fun x=>decide (100<x.nm.size))):=by show _=_;rw[hH.out,Z0b hx,List.any_cons]
    clear hH hx
    unfold maxLen at hnm
    have hin2:¬n≤i:=by omega
    by_cases h1:100<x.nm.size
    ·have hz:Z1B L=true:=by rw[hst.out,decide_eq_true h1,Bool.true_or]
     have h1':(100:Int)<(x.nm.size:Int):=by omega
     clear hst h1
     go_wp2
     go_ret
     exact⟨ZP (a:=true) hz.symm,hE⟩
    ·have hH2:Hid (Z1B L=(L.drop (i+1)).any fun x=>decide (100<x.nm.size)):=by show _=_;rw[hst.out,decide_eq_false h1,Bool.false_or]
     have h1':(x.nm.size:Int)≤100:=by omega
     clear hst h1
     go_wp2
     exact⟨⟨i+1,by omega,by push_cast;rfl,hr,hE,hH2⟩,by simp[intOf];omega⟩
def Zfc(a b c m:Int)(L:List Sf):Bool:= !Z1B L&&(Zp a b c m L==0)
theorem Zfd(a b c m:Int)(base:Option Addr)(n cap:Nat)(L:List Sf)(w:World)(hlen:L.length=n)(hS:RawA w base L):
 Calls prog 30 #[.agg #[.int .i64 a,.int .i64 b,.int .i64 c,.int .i64 m,.slice base n cap]] w fun e w'=>e= .returned (.bool (Zfc a b c m L))∧Ext w w':=by
 have hgr:=fun W hW=>ZaR a b c m base n cap L W hlen (hS.ext hW)
 cases hg:Z1B L with
 |true=>
  have hf:Zfc a b c m L=false:=by simp[Zfc,hg]
  simp only[hg] at hgr
  rw[hf]
  go_enter func30,ntmps30
  go_wp2_with (first
   |(go_at_call 21;refine(hgr _ ((Ext.rfl' w).alloc _)).mono ?_;rintro e w2 ⟨rfl,hE2⟩
     have hE3:=((Ext.rfl' w).alloc _).trans hE2))
  go_ret
  exact⟨rfl,hE3⟩
 |false=>
  have hn:n≤20:=by
   rw[←hlen]
   simp only[Z1B,Bool.or_eq_false_iff,decide_eq_false_iff_not] at hg
   omega
  have hf:Zfc a b c m L=(Zp a b c m L==0):=by simp[Zfc,hg]
  simp only[hg] at hgr
  have hc:=fun W hW=>Z1P a b c m base n cap L W hlen (by omega) (hS.ext hW)
  rw[hf]
  clear hg hf
  go_enter func30,ntmps30
  go_wp2_with (first
   |(go_at_call 21;refine(hgr _ ((Ext.rfl' w).alloc _)).mono ?_;rintro e w2 ⟨rfl,hE2⟩
     have hE3:=((Ext.rfl' w).alloc _).trans hE2
     have hb:=hE2.get (b:=w.heap.size) (o:= .cells #[.int .i64 a,.int .i64 b,.int .i64 c,.int .i64 m,.slice base n cap] 26) ((Z3 _ _ _).trans (if_pos rfl))
     have q0:=Z0 hb 0;have q1:=Z0 hb 1;have q2:=Z0 hb 2;have q3:=Z0 hb 3;have q4:=Z0 hb 4
     simp only[List.getElem?_toArray,List.getElem?_cons_zero,List.getElem?_cons_succ] at q0 q1 q2 q3 q4)
   |(go_at_call 26;refine(hc _ hE3).mono ?_;rintro e w3 ⟨rfl,hE4⟩))
  go_ret
  exact⟨rfl,hE3.trans hE4⟩
def Zfg(v:Int)(i:Nat):Bool:=bits BinOp.and IntKind.u16 (v / 2 ^ min i 16) 1==1
def ZeL(v:Int)(n:Nat):List Int:=((List.range n).filter (Zfg v)).map fun(i:Nat)=>(i:Int)
theorem ZeH(v:Int)(i:Nat):ZeL v (i+1)=ZeL v i++(if Zfg v i then[(i:Int)] else[]):=by
 unfold ZeL
 rw[List.range_succ,List.filter_append,List.map_append]
 congr 1
 cases h:Zfg v i<;>simp[h]
theorem ZeN(v:Int)(i:Nat):(ZeL v i).length≤i:=by
 have:=List.length_filter_le (Zfg v) (List.range i)
 simpa[ZeL] using this
theorem ZeT(a b c m v:Int)(base:Option Addr)(n cap:Nat)(w:World)(hn:n≤20)(hv:0≤v∧v<65536):
 Calls prog 31 #[.agg #[.int .i64 a,.int .i64 b,.int .i64 c,.int .i64 m,.slice base n cap],.int .u16 v] w fun e w'=>∃x,e= .returned x∧OwnI w.heap.size w' x (ZeL v n)∧Ext w w':=by
 have hE0:=(Ext.rfl' w).alloc (.cells #[.int .i64 a,.int .i64 b,.int .i64 c,.int .i64 m,.slice base n cap] 26)
 have hr0:(w.alloc (.cells #[.int .i64 a,.int .i64 b,.int .i64 c,.int .i64 m,.slice base n cap] 26)).heap[w.heap.size]? =some (.cells #[.int .i64 a,.int .i64 b,.int .i64 c,.int .i64 m,.slice base n cap] 26):=by rw[Z3,if_pos rfl]
 obtain⟨N,hN⟩:∃N,N=w.heap.size+1:=⟨_,rfl⟩
 go_enter func31,ntmps31
 go_wp2
 go_loopw [5,6] (fun v5 v6 wr=>∃i:Nat,i≤n∧v6= .int .i64 i∧wr.heap[w.heap.size]? =some (.cells #[.int .i64 a,.int .i64 b,.int .i64 c,.int .i64 m,.slice base n cap] 26)∧OwnI N wr v5 (ZeL v i)∧Ext w wr) (fun _ v6 _=>n - (intOf v6).toNat)
 case atStart=>exact⟨0,Nat.zero_le _,rfl,hr0,World.ownsRow_nil _ _ _ _,hE0⟩
 case round=>
  rename_i v5 _
  obtain⟨i,hi,rfl,hr,hown,hE⟩:=hrel
  have q4:=Z0 hr 4
  simp only[List.getElem?_toArray,List.getElem?_cons_zero,List.getElem?_cons_succ] at q4
  clear hE0 hr0
  by_cases h0:i=n
  ·subst h0
   go_wp2
   go_ret
   exact⟨_,rfl,hown.le (by omega),hE⟩
  ·have hlt:i<n:=by omega
   have hlt2:(i:Int)<(n:Int):=by omega
   have hll:=ZeN v i
   have hst:=ZeH v i
   have hs:=hE.size
   have hs2:=Z5 hr
   obtain⟨l,hl⟩:∃l,l=ZeL v i:=⟨_,rfl⟩
   rw[←hl] at hown hll hst
   clear hl
   cases hb:Zfg v i with
   |true=>
    have hb2:(bits BinOp.and IntKind.u16 (v / 2 ^ min i 16) 1==1)=true:=hb
    rw[hb,if_pos rfl] at hst
    have H3:Hid (ZeL v (i+1)=l++[(i:Int)]):=hst
    clear hst hb
    go_wp2_with (
     at_builtin
     generalize Value.int IntKind.u16 (bits BinOp.and IntKind.u16 (v / 2 ^ min i 16) 1)=q1
     generalize Value.int IntKind.u16 (v / 2 ^ min i 16)=q2
     refine wpList_append_own _ rfl _ _ _ rfl N 3 Tryz.t3 (.int .i64 0) 1 8 u27 i3 t3z t3s t3b rfl (by omega) _ _ _ rfl (hown.alloc _) ⟨wr.heap.size,0,none⟩ 1 1 [.int .i64 i] rfl rfl (Z1N _ _ _) (by intro u hu;simp at hu;subst hu;rfl) (by(try simp[maxLen]);omega) (by(try simp);omega) (by(try simp only[Z2]);omega) ?_
     intro v' w3 hown3 hgrow3 _
     have hE3:Ext w w3:=(hE.alloc _).grown hgrow3 (fun k hk=>by have:=(hown.lt k hk).1;omega)
     have hr3:=(hgrow3.block w.heap.size (by(try simp only[Z2]);omega) (by intro e;have:=(hown.lt _ e.symm).1;omega)).trans (((Z3 wr _ w.heap.size).trans (if_neg (by omega))).trans hr))
    go_roundw
    case rel=>exact⟨i+1,by omega,by push_cast;rfl,hr3,by rw[H3.out];simpa[OwnI] using hown3,hE3⟩
    case measure=>simp[intOf];omega
   |false=>
    have hb2:(bits BinOp.and IntKind.u16 (v / 2 ^ min i 16) 1==1)=false:=hb
    rw[hb] at hst
    have H3:Hid (ZeL v (i+1)=l):=by rw[Hid,hst];simp
    clear hst hb
    go_wp2
    go_roundw
    case rel=>exact⟨i+1,by omega,by push_cast;rfl,hr,by rw[H3.out];exact hown,hE⟩
    case measure=>simp[intOf];omega
end Go.Proofs.Tryq
namespace Go.Proofs.Tryq
open Go Go.Nk Go.RowKit
set_option linter.all false
theorem ZeO(n:Nat):∀(l:List Int)(o:Option Int),(∀y,o=some y→∀x∈l,y<x)→l.Pairwise (·<·)→(∀x∈l,0≤x∧x<n)→Z1k n o l=0
 |[],_,_,_,_=>rfl
 |x::t,o,h1,h2,h3=>by
  rw[Z8y]
  have hx:=h3 x (List.mem_cons_self ..)
  rw[if_neg (by simp only[Decidable.not_not];omega)]
  obtain⟨h4,h5⟩:=List.pairwise_cons.1 h2
  have ih:=ZeO n t (some x) (fun y e z hz=>by injection e with e;subst e;exact h4 z hz) h5 (fun z hz=>h3 z (List.mem_cons_of_mem _ hz))
  cases o with
  |none=>simpa using ih
  |some y=>
   have h6:=h1 y rfl x (List.mem_cons_self ..)
   have h7:decide (x≤y)=false:=by simp only[decide_eq_false_iff_not];omega
   simpa[h7] using ih
theorem ZeE{n:Nat}{l:List Int}(h2:l.Pairwise (·<·))(h3:∀x∈l,0≤x∧x<n):Zq n l=0:=
 ZeO n l none (fun y e=>by cases e) h2 h3
theorem ZeP{n:Nat}:∀{l:List Int}{o:Option Int},Z1k n o l=0→l.Pairwise (·<·)∧∀y,o=some y→∀x∈l,y<x
 |[],o,_=>⟨List.Pairwise.nil,fun y e x hx=>by cases hx⟩
 |x::t,o,h=>by
  rw[Z8y] at h
  by_cases hr:¬(0≤x∧x≤(n:Int) - 1)
  ·rw[if_pos hr] at h;exact absurd h (by decide)
  ·rw[if_neg hr] at h
   have hyx:Z1k n (some x) t=0∧∀y,o=some y→y<x:=by
    cases o with
    |none=>exact⟨by simpa using h,fun y e=>by cases e⟩
    |some y=>
     by_cases h7:x≤y
     ·simp[h7] at h
     ·simp[h7] at h
      exact⟨h,fun z e=>by injection e with e;omega⟩
   have ih:=ZeP (o:=some x) hyx.1
   refine⟨List.pairwise_cons.2 ⟨ih.2 x rfl,ih.1⟩,fun y e z hz=> ?_⟩
   have h8:=hyx.2 y e
   rcases List.mem_cons.1 hz with rfl|hz
   ·exact h8
   ·have:=ih.2 x rfl z hz;omega
theorem ZeY(v:Int)(n:Nat):(ZeL v n).Pairwise (·<·)∧∀x∈ZeL v n,0≤x∧x<n:=by
 induction n with
 |zero=>exact⟨List.Pairwise.nil,fun x hx=>by cases hx⟩
 |succ n ih=>
  rw[ZeH]
  cases hb:Zfg v n with
  |false=>
   simp only[Bool.false_eq_true,if_false,List.append_nil]
   exact⟨ih.1,fun x hx=>by have:=ih.2 x hx;omega⟩
  |true=>
   simp only[if_true]
   refine⟨List.pairwise_append.2 ⟨ih.1,List.pairwise_singleton _ _,fun x hx y hy=> ?_⟩,fun x hx=> ?_⟩
   ·rw[List.mem_singleton.1 hy];exact(ih.2 x hx).2
   ·rcases List.mem_append.1 hx with h|h
    ·have:=ih.2 x h;omega
    ·rw[List.mem_singleton.1 h];omega
theorem Zew(v:Int)(n:Nat):Zq n (ZeL v n)=0:=ZeE (ZeY v n).1 (ZeY v n).2
theorem ZeI{n:Nat}{l:List Int}(h:Zq n l=0){i:Nat}{x:Int}(hx:l[i]? =some x):Zq n [x]=0:=
 ZeE (List.pairwise_singleton _ _) (fun y hy=>by rw[List.mem_singleton.1 hy];exact Z7F h x (List.mem_of_getElem? hx))
theorem Zev{n:Nat}{l:List Int}(h:Zq n l=0){i j:Nat}(hij:i<j){x y:Int}(hx:l[i]? =some x)(hy:l[j]? =some y):Zq n [x,y]=0:=by
 have hp:=(ZeP h).1
 have hxy:x<y:=by
  obtain⟨h1,e1⟩:=List.getElem?_eq_some_iff.1 hx
  obtain⟨h2,e2⟩:=List.getElem?_eq_some_iff.1 hy
  have:=List.pairwise_iff_getElem.1 hp i j h1 h2 hij
  rw[e1,e2] at this;exact this
 refine ZeE (List.pairwise_cons.2 ⟨fun z hz=>by rw[List.mem_singleton.1 hz];exact hxy,List.pairwise_singleton _ _⟩) (fun z hz=> ?_)
 rcases List.mem_cons.1 hz with rfl|hz
 ·exact Z7F h _ (List.mem_of_getElem? hx)
 ·rw[List.mem_singleton.1 hz];exact Z7F h _ (List.mem_of_getElem? hy)
def AllT(F:List Int→Int)(l:List Int)(i j:Nat):Prop:=∀p q x y,(p<i∨(p=i∧q<j))→p<q→l[p]? =some x→l[q]? =some y→F [x,y]=1
def AnyT(F:List Int→Int)(l:List Int)(i j:Nat):Prop:=∃p q x y,(p<i∨(p=i∧q<j))∧p<q∧l[p]? =some x∧l[q]? =some y∧F [x,y]=2
theorem AllT.in_{F:List Int→Int}{l:List Int}{i:Nat}:AllT F l i (i+1)↔AllT F l i 0:=
 ⟨fun h p q x y ho hpq=>h p q x y (ho.elim .inl (fun e=>by omega)) hpq,fun h p q x y ho hpq=>h p q x y (ho.elim .inl (fun e=>by omega)) hpq⟩
theorem AnyT.in_{F:List Int→Int}{l:List Int}{i:Nat}:AnyT F l i (i+1)↔AnyT F l i 0:=by
 constructor
 ·rintro⟨p,q,x,y,ho,hpq,r⟩
  exact⟨p,q,x,y,.inl (ho.elim id (fun e=>by omega)),hpq,r⟩
 ·rintro⟨p,q,x,y,ho,hpq,r⟩
  exact⟨p,q,x,y,.inl (ho.elim id (fun e=>by omega)),hpq,r⟩
theorem AllT.out{F:List Int→Int}{l:List Int}{i j:Nat}(hj:l.length≤j):AllT F l i j↔AllT F l (i+1) 0:=by
 constructor
 ·intro h p q x y ho hpq hx hy
  have:=(List.getElem?_eq_some_iff.1 hy).1
  exact h p q x y (by omega) hpq hx hy
 ·intro h p q x y ho hpq hx hy
  exact h p q x y (by omega) hpq hx hy
theorem AnyT.out{F:List Int→Int}{l:List Int}{i j:Nat}(hj:l.length≤j):AnyT F l i j↔AnyT F l (i+1) 0:=by
 constructor
 ·rintro⟨p,q,x,y,ho,hpq,hx,hy,r⟩
  exact⟨p,q,x,y,by omega,hpq,hx,hy,r⟩
 ·rintro⟨p,q,x,y,ho,hpq,hx,hy,r⟩
  have:=(List.getElem?_eq_some_iff.1 hy).1
  exact⟨p,q,x,y,by omega,hpq,hx,hy,r⟩
theorem AllT.step{F:List Int→Int}{l:List Int}{i j:Nat}(hij:i<j){x y:Int}(hx:l[i]? =some x)(hy:l[j]? =some y):AllT F l i (j+1)↔(AllT F l i j∧F [x,y]=1):=by
 constructor
 ·intro h
  exact⟨fun p q x y ho hpq hx hy=>h p q x y (by omega) hpq hx hy,h i j x y (by omega) hij hx hy⟩
 ·rintro⟨h1,h2⟩ p q x' y' ho hpq hx' hy'
  by_cases hc:p=i∧q=j
  ·obtain⟨rfl,rfl⟩:=hc
   rw[hx] at hx';rw[hy] at hy'
   injection hx' with e1;injection hy' with e2
   rw[←e1,←e2];exact h2
  ·exact h1 p q x' y' (by omega) hpq hx' hy'
theorem AnyT.step{F:List Int→Int}{l:List Int}{i j:Nat}(hij:i<j){x y:Int}(hx:l[i]? =some x)(hy:l[j]? =some y):AnyT F l i (j+1)↔(AnyT F l i j∨F [x,y]=2):=by
 constructor
 ·rintro⟨p,q,x',y',ho,hpq,hx',hy',r⟩
  by_cases hc:p=i∧q=j
  ·obtain⟨rfl,rfl⟩:=hc
   rw[hx] at hx';rw[hy] at hy'
   injection hx' with e1;injection hy' with e2
   exact .inr (by rw[e1,e2];exact r)
  ·exact .inl ⟨p,q,x',y',by omega,hpq,hx',hy',r⟩
 ·rintro(⟨p,q,x',y',ho,hpq,hx',hy',r⟩|h)
  ·exact⟨p,q,x',y',by omega,hpq,hx',hy',r⟩
  ·exact⟨i,j,x,y,by omega,hij,hx,hy,h⟩
theorem Zfe{a b c:Int}{L:List Sf}{u:Ap}:∀{l:List Int},u∈apA a b c L l↔∃(i j:Nat)(x y:Int),i<j∧l[i]? =some x∧l[j]? =some y∧u∈apP a b c L x y
 |[]=>⟨fun h=>(by cases h),fun⟨i,j,x,y,_,hx,_⟩=>by simp at hx⟩
 |p::t=>by
  rw[show apA a b c L (p::t)=apR a b c L p t++apA a b c L t from rfl,List.mem_append,Zfe (l:=t)]
  constructor
  ·rintro(h|⟨i,j,x,y,hij,hx,hy,hu⟩)
   ·obtain⟨y,hy,hu⟩:=List.mem_flatMap.1 h
    obtain⟨j,hj⟩:=List.mem_iff_getElem?.1 hy
    exact⟨0,j+1,p,y,by omega,rfl,by simpa using hj,hu⟩
   ·exact⟨i+1,j+1,x,y,by omega,by simpa using hx,by simpa using hy,hu⟩
  ·rintro⟨i,j,x,y,hij,hx,hy,hu⟩
   obtain⟨j,rfl⟩:∃j',j=j'+1:=⟨j - 1,by omega⟩
   rw[List.getElem?_cons_succ] at hy
   cases i with
   |zero=>
    rw[List.getElem?_cons_zero] at hx
    injection hx with e;subst e
    exact .inl (List.mem_flatMap.2 ⟨y,List.mem_of_getElem? hy,hu⟩)
   |succ i=>
    rw[List.getElem?_cons_succ] at hx
    exact .inr ⟨i,j,x,y,by omega,hx,hy,hu⟩
theorem ZeF(a b c:Int)(L:List Sf)(x y:Int):apA a b c L [x,y]=apP a b c L x y:=by
 simp[apA,apR]
theorem Zeu{a b c m:Int}{L:List Sf}(hs:Zp a b c m L=0){l:List Int}(hz:Zq L.length l=0):Z1M a b c m L l=Zr (apA a b c L l):=if_pos (by rw[Zo,hs,hz];rfl)
theorem Zez{A:List Ap}:Zr A=2↔∃u∈A,u.s=2:=by
 unfold Zr
 split
 ·rename_i h
  obtain⟨u,hu,h2⟩:=List.any_eq_true.1 h
  exact⟨fun _=>⟨u,hu,by simpa using h2⟩,fun _=>rfl⟩
 ·rename_i h
  constructor
  ·intro h2;split at h2<;>simp at h2
  ·rintro⟨u,hu,h2⟩
   exact absurd (List.any_eq_true.2 ⟨u,hu,by simpa using h2⟩) h
theorem ZeZ{a b c m:Int}{L:List Sf}(hs:Zp a b c m L=0){l:List Int}(hz:Zq L.length l=0){i:Nat}{x:Int}(hx:l[i]? =some x):Z1M a b c m L [x]=1:=by
 rw[Zeu hs (ZeI hz hx)];simp[apA,apR,Zr]
theorem Zf0{a b c m:Int}{L:List Sf}(hs:Zp a b c m L=0){l:List Int}(hz:Zq L.length l=0){k:Nat}(hk:l.length=k):AllT (Z1M a b c m L) l k 0↔Z1M a b c m L l=1:=by
 rw[Zeu hs hz,Zey,List.eq_nil_iff_forall_not_mem]
 constructor
 ·intro h u hu
  obtain⟨i,j,x,y,hij,hx,hy,hu⟩:=Zfe.1 hu
  have hl:=(List.getElem?_eq_some_iff.1 hy).1
  have:=h i j x y (by omega) hij hx hy
  rw[Zeu hs (Zev hz hij hx hy),Zey,ZeF] at this
  rw[this] at hu;cases hu
 ·intro h p q x y _ hpq hx hy
  rw[Zeu hs (Zev hz hpq hx hy),Zey,ZeF,List.eq_nil_iff_forall_not_mem]
  exact fun u hu=>h u (Zfe.2 ⟨p,q,x,y,hpq,hx,hy,hu⟩)
theorem Zf1{a b c m:Int}{L:List Sf}(hs:Zp a b c m L=0){l:List Int}(hz:Zq L.length l=0){k:Nat}(hk:l.length=k):AnyT (Z1M a b c m L) l k 0↔Z1M a b c m L l=2:=by
 rw[Zeu hs hz,Zez]
 constructor
 ·rintro⟨p,q,x,y,_,hpq,hx,hy,r⟩
  rw[Zeu hs (Zev hz hpq hx hy),Zez,ZeF] at r
  obtain⟨u,hu,h2⟩:=r
  exact⟨u,Zfe.2 ⟨p,q,x,y,hpq,hx,hy,hu⟩,h2⟩
 ·rintro⟨u,hu,h2⟩
  obtain⟨i,j,x,y,hij,hx,hy,hu⟩:=Zfe.1 hu
  have hl:=(List.getElem?_eq_some_iff.1 hy).1
  refine⟨i,j,x,y,by omega,hij,hx,hy,?_⟩
  rw[Zeu hs (Zev hz hij hx hy),Zez,ZeF]
  exact⟨u,hu,h2⟩
end Go.Proofs.Tryq
namespace Go.Proofs.Tryq
set_option maxRecDepth 100000
set_option maxHeartbeats 8000000
open Go Go.Nk Go.RowKit
theorem Zff(W:World)(x y:Int):RawI (W.alloc (.cells #[.int .i64 x,.int .i64 y] 3)) (some ⟨W.heap.size,0,none⟩) [x,y]:=by
 have hb:(W.alloc (.cells #[.int .i64 x,.int .i64 y] 3)).heap[W.heap.size]? =some (.cells #[.int .i64 x,.int .i64 y] 3):=(Z3 _ _ _).trans (if_pos rfl)
 intro q z hq
 refine⟨_,_,rfl,by rw[Z2];omega,?_⟩
 rw[Z0 hb]
 match q,hq with
 |0,hq=>simp at hq;subst hq;rfl
 |1,hq=>simp at hq;subst hq;rfl
 |q+2,hq=>simp at hq
theorem ZeU(a b c m v:Int)(base:Option Addr)(n cap:Nat)(l:List Int)(k:Nat)(MF:List Int→Int)(w:World)(hk:Hid (l.length=k))(hk20:k≤20)(hlz:Hid (Zq n l=0))
 (hft:∀W,Ext w W→Calls prog 30 #[.agg #[.int .i64 a,.int .i64 b,.int .i64 c,.int .i64 m,.slice base n cap]] W fun e w'=>e= .returned (.bool true)∧Ext W w')
 (hli:∀W,Ext w W→Calls prog 31 #[.agg #[.int .i64 a,.int .i64 b,.int .i64 c,.int .i64 m,.slice base n cap],.int .u16 v] W fun e w'=>∃x,e= .returned x∧OwnI W.heap.size w' x l∧Ext W w')
 (hm1:∀(l:List Int)(k:Nat)(_:Zq n l=0)(_:l.length=k)(_:k≤100) bl cl W (_:k≤cl)(_:Ext w W)(_:RawI W bl l),Calls prog 23 #[.agg #[.int .i64 a,.int .i64 b,.int .i64 c,.int .i64 m,.slice base n cap],.slice bl k cl] W fun e w'=>e= .returned (.tuple #[.int .i64 (MF l),.int .i64 0])∧Ext W w')
 (hsh:∀W,Ext w W→Calls prog 22 #[] W fun e w'=>e= .returned (.bool true)∧Ext W w')
 (hA:Hid (AllT MF l k 0↔MF l=1))(hB:Hid (AnyT MF l k 0↔MF l=2))(hC:Hid (∀(i:Nat)(x:Int),l[i]? =some x→MF [x]=1)):
 Calls prog 5 #[.agg #[.int .i64 a,.int .i64 b,.int .i64 c,.int .i64 m,.slice base n cap],.int .u16 v] w fun e w'=>e= .returned (.bool true):=by
 go_enter func5,ntmps5
 go_wp2_with (first
  |(go_at_call 30;refine(hft _ ((Ext.rfl' w).alloc _)).mono ?_;rintro e w2 ⟨rfl,hE2⟩
    have hE3:=((Ext.rfl' w).alloc _).trans hE2
    have hr:=hE2.get (b:=w.heap.size) (o:= .cells #[.int .i64 a,.int .i64 b,.int .i64 c,.int .i64 m,.slice base n cap] 26) ((Z3 _ _ _).trans (if_pos rfl))
    have q0:=Z0 hr 0;have q1:=Z0 hr 1;have q2:=Z0 hr 2;have q3:=Z0 hr 3;have q4:=Z0 hr 4
    simp only[List.getElem?_toArray,List.getElem?_cons_zero,List.getElem?_cons_succ] at q0 q1 q2 q3 q4)
  |(go_at_call 31;refine(hli _ hE3).mono ?_;rintro e w3 ⟨x,rfl,hx,hE4⟩
    obtain⟨bl,cl,rfl,hI,hcl⟩:=hx.rawI
    rw[hk.out] at hcl⊢
    replace hr:=hE4.get hr
    clear q0 q1 q2 q3 q4
    have q0:=Z0 hr 0;have q1:=Z0 hr 1;have q2:=Z0 hr 2;have q3:=Z0 hr 3;have q4:=Z0 hr 4
    simp only[List.getElem?_toArray,List.getElem?_cons_zero,List.getElem?_cons_succ] at q0 q1 q2 q3 q4
    have hE5:=hE3.trans hE4)
  |(go_at_call 23;refine(hm1 l k hlz.out hk.out (by omega) bl cl _ hcl hE5 hI).mono ?_;rintro e w4 ⟨rfl,hE6⟩
    replace hr:=hE6.get hr
    replace hI:=hI.ext hE6
    have hE7:=hE5.trans hE6))
 go_loopw [8,9,10] (fun v8 v9 v10 wr=>∃(i:Nat)(al an:Bool),i≤k∧v8= .bool al∧v9= .bool an∧v10= .int .i64 i∧Ext w wr∧wr.heap[w.heap.size]? =some (.cells #[.int .i64 a,.int .i64 b,.int .i64 c,.int .i64 m,.slice base n cap] 26)∧RawI wr bl l∧Hid (al=true↔AllT MF l i 0)∧Hid (an=true↔AnyT MF l i 0)) (fun _ _ v10 _=>k - (intOf v10).toNat)
 case atStart=>exact⟨0,true,false,Nat.zero_le _,rfl,rfl,rfl,hE7,hr,hI,⟨fun _ p q x y ho=>(by omega),fun _=>rfl⟩,⟨fun h=>(by cases h),fun⟨p,q,x,y,ho,_⟩=>(by omega)⟩⟩
 case round=>
  clear hI hr hE7 hE2 hE3 hE4 hE5 hE6 hx q0 q1 q2 q3 q4
  obtain⟨i,al,an,hi,rfl,rfl,rfl,hE,hr,hI,hal,han⟩:=hrel
  by_cases h0:i=k
  ·subst h0
   have e1:al=(MF l==1):=by
    have h1:=hal.trans hA
    cases al
    ·exact(beq_eq_false_iff_ne.2 (fun h=>by have:=h1.2 h;cases this)).symm
    ·exact(beq_iff_eq.2 (h1.1 rfl)).symm
   have e2:an=(MF l==2):=by
    have h1:=han.trans hB
    cases an
    ·exact(beq_eq_false_iff_ne.2 (fun h=>by have:=h1.2 h;cases this)).symm
    ·exact(beq_iff_eq.2 (h1.1 rfl)).symm
   subst e1 e2
   clear hA hB hC hal han hm1
   generalize MF l=mv
   by_cases h1:mv=1
   ·subst h1
    go_wp2_with (first|(go_at_call 22;refine(hsh _ hE).mono ?_;rintro e w3 ⟨rfl,hE4⟩))
    go_ret
    exact rfl
   ·have h1b:(mv==1)=false:=beq_eq_false_iff_ne.2 h1
    by_cases h2:mv=2
    ·subst h2
     go_wp2_with (first|(go_at_call 22;refine(hsh _ hE).mono ?_;rintro e w3 ⟨rfl,hE4⟩))
     go_ret
     exact rfl
    ·have h2b:(mv==2)=false:=beq_eq_false_iff_ne.2 h2
     rw[h1b,h2b]
     go_wp2_with (first|(go_at_call 22;refine(hsh _ hE).mono ?_;rintro e w3 ⟨rfl,hE4⟩))
     go_ret
     exact rfl
  ·have hlt:i<k:=by omega
   have hlt2:(i:Int)<(k:Int):=by omega
   obtain⟨x,hxi0⟩:∃x,l[i]? =some x:=⟨_,List.getElem?_eq_getElem (by have:=hk.out;omega)⟩
   obtain⟨bb,ob,hbb,hb1,hcx⟩:=hI i x hxi0
   subst hbb
   have hI1:RawI wr (some ⟨bb,ob+i,none⟩) [x]:=by
    intro q y hq
    cases q with
    |zero=>
     obtain rfl:x=y:=by simpa using hq
     exact⟨bb,ob+i,rfl,hb1,hcx⟩
    |succ q=>simp at hq
   have hm2:=fun W (hW:Ext wr W)=>hm1 [x] 1 (ZeI hlz.out hxi0) rfl (by omega) (some ⟨bb,ob+i,none⟩) (cl - i) W (by omega) (hE.trans hW) (hI1.ext hW)
   rw[hC.out i x hxi0] at hm2
   have hxi:Hid (l[i]? =some x):=hxi0
   clear hxi0
   have q0:=Z0 hr 0;have q1:=Z0 hr 1;have q2:=Z0 hr 2;have q3:=Z0 hr 3;have q4:=Z0 hr 4
   simp only[List.getElem?_toArray,List.getElem?_cons_zero,List.getElem?_cons_succ] at q0 q1 q2 q3 q4
   have g0:=Zet q0;have g1:=Zet q1;have g2:=Zet q2;have g3:=Zet q3;have g4:=Zet q4
   have hs1:(i:Int)+1≤(cl:Int):=by omega
   have hs2:(0:Int)≤(i:Int):=by omega
   have hs5:(i:Int)≤(i:Int)+1:=by omega
   go_wp2
   refine ZeG 12 (by kernel_rfl) ?_
   refine ZeB [0,1,2,3,4,5] (by kernel_rfl) (by kernel_rfl) ?_
   simp only[ZeD,List.getElem?_cons_succ,List.getElem?_cons_zero,List.cons_append,List.nil_append]
   repeat (go_big_quiet_step (fail))
   refine wpQuiet_nil ?_
   refine ZeX 6 (f:=23) (args:= #[.agg #[.int .i64 a,.int .i64 b,.int .i64 c,.int .i64 m,.slice base n cap],.slice (some ⟨bb,ob+i,none⟩) 1 (cl - i)]) (v:= .tuple #[.int .i64 1,.int .i64 0]) (by kernel_rfl) rfl (by kernel_rfl) rfl (fun W=>by simp[go_sem,execOp,Act.eval]) (hm2) ?_
   go_simp
   refine ZeB [7,8,9,10,11] (by kernel_rfl) (by kernel_rfl) ?_
   simp only[ZeD,List.getElem?_cons_succ,List.getElem?_cons_zero,List.cons_append,List.nil_append]
   repeat (go_big_quiet_step (fail))
   refine wpQuiet_nil ?_
   refine Zf6 (by kernel_rfl) (fun W hW=> ?_)
   have hE9:=hE.trans hW
   have hr9:=hW.get hr
   have hI9:=hI.ext hW
   clear q0 q1 q2 q3 q4 g0 g1 g2 g3 g4 hm2 hI1 hI hr hE hW hcx
   go_wp2
   obtain⟨wo,rfl⟩:∃wo:World,wo=W:=⟨_,rfl⟩
   go_loopw [8,9,13] (fun v8 v9 v13 wr=>∃(j:Nat)(al an:Bool),i<j∧j≤k∧v8= .bool al∧v9= .bool an∧v13= .int .i64 j∧Ext w wr∧wr.heap[w.heap.size]? =some (.cells #[.int .i64 a,.int .i64 b,.int .i64 c,.int .i64 m,.slice base n cap] 26)∧RawI wr (some ⟨bb,ob,none⟩) l∧Hid (al=true↔AllT MF l i j)∧Hid (an=true↔AnyT MF l i j)) (fun _ _ v13 _=>k - (intOf v13).toNat)
   case atStart=>exact⟨i+1,al,an,by omega,by omega,rfl,rfl,by push_cast;rfl,hE9,hr9,hI9,hal.out.trans AllT.in_.symm,han.out.trans AnyT.in_.symm⟩
   case round=>
    clear hal han hE9 hr9 hI9
    obtain⟨j,al,an,hij,hj,rfl,rfl,rfl,hE,hr,hI,hal,han⟩:=hrel
    by_cases hjk:j=k
    ·subst hjk
     have hal2:Hid (al=true↔AllT MF l (i+1) 0):=hal.out.trans (AllT.out (by have:=hk.out;omega))
     have han2:Hid (an=true↔AnyT MF l (i+1) 0):=han.out.trans (AnyT.out (by have:=hk.out;omega))
     clear hal han
     go_wp2
     exact⟨⟨i+1,al,an,by omega,rfl,rfl,by push_cast;rfl,hE,hr,hI,hal2,han2⟩,by simp[intOf];omega⟩
    ·have hjlt:j<k:=by omega
     have hjlt2:(j:Int)<(k:Int):=by omega
     have hj0:(0:Int)≤(j:Int):=by omega
     obtain⟨y,hyj⟩:∃y,l[j]? =some y:=⟨_,List.getElem?_eq_getElem (by have:=hk.out;omega)⟩
     obtain⟨b1,o1,e1,hb1,hcx⟩:=hI i x hxi.out
     obtain⟨b2,o2,e2,hb2,hcy⟩:=hI j y hyj
     obtain⟨rfl,rfl⟩:bb=b1∧ob=o1:=by simpa using e1
     obtain⟨rfl,rfl⟩:bb=b2∧ob=o2:=by simpa using e2
     have hyj2:Hid (l[j]? =some y):=hyj
     clear hyj e1 e2
     have hm2:=fun W (hW:Ext wr W) bl hI=>hm1 [x,y] 2 (Zev hlz.out hij hxi.out hyj2.out) rfl (by omega) bl 2 W (by omega) (hE.trans hW) hI
     obtain⟨mv,hmv⟩:∃mv,mv=MF [x,y]:=⟨_,rfl⟩
     have hmv2:Hid (mv=MF [x,y]):=hmv
     rw[←hmv] at hm2
     clear hmv
     have q0:=Z0 hr 0;have q1:=Z0 hr 1;have q2:=Z0 hr 2;have q3:=Z0 hr 3;have q4:=Z0 hr 4
     simp only[List.getElem?_toArray,List.getElem?_cons_zero,List.getElem?_cons_succ] at q0 q1 q2 q3 q4
     have g0:=Zet q0;have g1:=Zet q1;have g2:=Zet q2;have g3:=Zet q3;have g4:=Zet q4
     have gx:=Zet hcx;have gy:=Zet hcy
     go_wp2
     refine ZeG 16 (by kernel_rfl) ?_
     refine ZeB [0,1,2,3,4,5,6,7,8] (by kernel_rfl) (by kernel_rfl) ?_
     simp only[ZeD,List.getElem?_cons_succ,List.getElem?_cons_zero,List.cons_append,List.nil_append]
     repeat (go_big_quiet_step (fail))
     refine wpQuiet_nil ?_
     refine Zfa 9 rfl (by kernel_rfl) rfl (fun W hW=>Zf3 ⟨.slice (some ⟨W.heap.size,0,none⟩) 2 2,W.alloc (.cells #[.int .i64 x,.int .i64 y] 3),by simp[go_sem,execOp,Act.eval],(Ext.rfl' W).alloc _,?_⟩)
     have hI2:RawI (W.alloc (.cells #[.int .i64 x,.int .i64 y] 3)) (some ⟨W.heap.size,0,none⟩) [x,y]:=Zff W x y
     have hEW2:=hW.alloc (.cells #[.int .i64 x,.int .i64 y] 3)
     generalize W.heap.size=B2 at hI2⊢
     clear hW
     generalize World.alloc W _=W2 at hI2 hEW2⊢
     clear W
     go_simp
     refine ZeX 10 (f:=23) (args:= #[.agg #[.int .i64 a,.int .i64 b,.int .i64 c,.int .i64 m,.slice base n cap],.slice (some ⟨B2,0,none⟩) 2 2]) (v:= .tuple #[.int .i64 mv,.int .i64 0]) (by kernel_rfl) rfl (by kernel_rfl) rfl (fun W=>by simp[go_sem,execOp,Act.eval]) (fun W hW=>hm2 W (hEW2.trans hW) _ (hI2.ext hW)) ?_
     go_simp
     refine ZeB [11,12,13,14,15] (by kernel_rfl) (by kernel_rfl) ?_
     simp only[ZeD,List.getElem?_cons_succ,List.getElem?_cons_zero,List.cons_append,List.nil_append]
     repeat (go_big_quiet_step (fail))
     refine wpQuiet_nil ?_
     refine Zf6 (by kernel_rfl) (fun W hW=> ?_)
     have hE3:=(hE.trans hEW2).trans hW
     have hr3:=hW.get (hEW2.get hr)
     have hI3:=(hI.ext hEW2).ext hW
     have hal2:Hid ((al&&(mv==1))=true↔AllT MF l i (j+1)):=by show _↔_;rw[AllT.step hij hxi.out hyj2.out,←hmv2.out,←hal.out];simp
     have han2:Hid ((an||(mv==2))=true↔AnyT MF l i (j+1)):=by show _↔_;rw[AnyT.step hij hxi.out hyj2.out,←hmv2.out,←han.out];simp
     clear q0 q1 q2 q3 q4 g0 g1 g2 g3 g4 gx gy hcx hcy hm2 hI hr hE hW hEW2 hI2 hal han hmv2 hyj2
     have b1:(mv==1)=true∨(mv==1)=false:=by cases (mv==1)<;>simp
     have b2:(mv==2)=true∨(mv==2)=false:=by cases (mv==2)<;>simp
     rcases b1 with b1|b1
     all_goals rcases b2 with b2|b2
     all_goals rw[b1] at hal2
     all_goals rw[b2] at han2
     all_goals cases al
     all_goals cases an
     all_goals go_wp2
     all_goals exact⟨⟨j+1,_,_,by omega,by omega,rfl,rfl,by push_cast;rfl,hE3,hr3,hI3,hal2,han2⟩,by simp[intOf];omega⟩
end Go.Proofs.Tryq
