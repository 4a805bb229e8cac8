import Derived.Test.YtedkbdkbbnemlaaGreatDoorNk28
set_option linter.all false
namespace Go.Proofs.Tryq
set_option maxRecDepth 100000
set_option maxHeartbeats 4000000
open Go Go.Nk Go.RowKit
def Zg6(r0 r1 r2 r3:Int)(S:List Rs)(l:List Int)(i:Int):Bool:=match S[i.toNat]? with
 |some s=>decide ((Z57 r0 r1 r2 r3 S s.a l).1≤(Z57 r0 r1 r2 r3 S s.a l).2)
 |none=>false
theorem Zg2(r0 r1 r2 r3:Int)(base:Option Addr)(n cap:Nat)(S:List Rs)(bl:Option Addr)(k cl:Nat)(l:List Int)(w:World)(hlen:S.length=n)(hn:n≤20)(hk:l.length=k)(hk20:k≤20)(hin:∀j∈l,0≤j∧j<(n:Int))(hS:RawS w base S)(hl:RawI w bl l):
 Calls prog 43 #[.agg #[.int .i64 r0,.int .i64 r1,.int .i64 r2,.int .i64 r3,.slice base n cap],.slice bl k cl] w fun e w'=>e= .returned (.bool (Z20 r0 r1 r2 r3 S l))∧Ext w w':=by
 have H0:Hid (Z20 r0 r1 r2 r3 S l=(l.drop 0).all (Zg6 r0 r1 r2 r3 S l)):=rfl
 have hE0:=(Ext.rfl' w).alloc (.cells #[.int .i64 r0,.int .i64 r1,.int .i64 r2,.int .i64 r3,.slice base n cap] 70)
 have hb0:(w.alloc (.cells #[.int .i64 r0,.int .i64 r1,.int .i64 r2,.int .i64 r3,.slice base n cap] 70)).heap[w.heap.size]? =some (.cells #[.int .i64 r0,.int .i64 r1,.int .i64 r2,.int .i64 r3,.slice base n cap] 70):=by rw[Z3,if_pos rfl]
 have hspan:=fun(hk0:0<k) d W (hW:Ext w W)=>Zg1 r0 r1 r2 r3 base n cap S bl k cl l d W hlen hn hk hk20 hk0 hin (hS.ext hW) (hl.ext hW)
 replace hlen:Hid (S.length=n):=hlen
 replace hk:Hid (l.length=k):=hk
 replace hin:Hid (∀j∈l,0≤j∧j<(n:Int)):=hin
 have hS2:Hid (RawS w base S):=hS
 have hl2:Hid (RawI w bl l):=hl
 clear hS hl
 go_enter func43,ntmps43
 go_wp2_with fail
 go_loopw [5] (fun v wr=>∃i:Nat,i≤k∧v= .int .i64 i∧Ext w wr∧wr.heap[w.heap.size]? =some (.cells #[.int .i64 r0,.int .i64 r1,.int .i64 r2,.int .i64 r3,.slice base n cap] 70)∧Hid (Z20 r0 r1 r2 r3 S l=(l.drop i).all (Zg6 r0 r1 r2 r3 S l))) (fun v _=>k - (intOf v).toNat)
 case atStart=>exact⟨0,Nat.zero_le _,rfl,hE0,hb0,H0⟩
 case round=>
  clear hE0 hb0 H0
  obtain⟨i,hi,rfl,hE,hb,HP⟩:=hrel
  by_cases hik:i=k
  ·subst hik
   have HR:Hid (Z20 r0 r1 r2 r3 S l=true):=by show _=_;rw[HP.out,List.drop_of_length_le (by have:=hk.out;omega)];rfl
   clear HP hspan hin hS2 hl2
   go_wp2
   go_ret
   exact⟨ZP (a:=true) HR.out.symm,hE⟩
  ·have hlt:i<k:=by omega
   have hlt2:(i:Int)<(k:Int):=by omega
   obtain⟨j,hj⟩:∃j,l[i]? =some j:=⟨_,List.getElem?_eq_getElem (by have:=hk.out;omega)⟩
   have hjn:=hin.out j (List.mem_of_getElem? hj)
   obtain⟨J,rfl⟩:=Int.eq_ofNat_of_zero_le hjn.1
   have hJn:J<n:=by omega
   have hJ2:(J:Int)<(n:Int):=by omega
   obtain⟨s,hs⟩:∃s,S[J]? =some s:=⟨_,List.getElem?_eq_getElem (by have:=hlen.out;omega)⟩
   obtain⟨B0,O0,rfl,hB0,hc0⟩:=hl2.out i _ hj
   obtain⟨BS,OS,rfl,hBS,sh⟩:=hS2.out J s hs
   have hsp:=hspan (by omega) s.a
   have HN:Hid (Z20 r0 r1 r2 r3 S l=(decide ((Z57 r0 r1 r2 r3 S s.a l).1≤(Z57 r0 r1 r2 r3 S s.a l).2)&&(l.drop (i+1)).all (Zg6 r0 r1 r2 r3 S l))):=by
    show _=_
    rw[HP.out,Z0b hj,List.all_cons,Zg6,Int.toNat_natCast,hs]
   obtain⟨⟨pa,pb⟩,HF0⟩:∃v,Z57 r0 r1 r2 r3 S s.a l=v:=⟨_,rfl⟩
   rw[HF0] at HN hsp
   have hc:=hE.cellS hc0
   have s0:=hE.cellS sh.c0
   clear HF0 hj hs HP hspan sh hc0 hjn hin hS2 hl2
   have q0:=Z0 hb 0;have q1:=Z0 hb 1;have q2:=Z0 hb 2;have q3:=Z0 hb 3;have q4:=Z0 hb 4
   simp only[List.getElem?_toArray,List.getElem?_cons_zero,List.getElem?_cons_succ] at q0 q1 q2 q3 q4
   have g0:=Zet q0;have g1:=Zet q1;have g2:=Zet q2;have g3:=Zet q3;have g4:=Zet q4
   have kc:=Zet hc;have ks:=Zet s0
   go_wp2_with fail
   refine Zfn 13 12 6 [0,1,2,3,4,5,6,7,8,9,10,11] (.cells #[.int .i64 0,.int .i64 0] 48) (by kernel_rfl) rfl (by kernel_rfl) rfl rfl (fun a W=>by simp[go_sem,execOp,Act.eval]) ?_
   refine Zfj [0,1,2,3,4,5,6,7,8,9,10] (by kernel_rfl) rfl rfl (by kernel_rfl) ?_
   simp only[ZeD,List.getElem?_cons_succ,List.getElem?_cons_zero,List.cons_append,List.nil_append]
   repeat (go_big_quiet_step (fail))
   refine wpQuiet_nil ?_
   refine Zfr 11 (f:=102) (args:= #[.agg #[.int .i64 r0,.int .i64 r1,.int .i64 r2,.int .i64 r3,.slice (some ⟨BS,OS,none⟩) n cap],.slice (some ⟨B0,O0,none⟩) k cl,.int .i64 s.a]) (v:= .agg #[.int .i64 pa,.int .i64 pb]) (by kernel_rfl) rfl rfl rfl (by kernel_rfl) rfl (fun W=>by simp[go_sem,execOp,Act.eval]) (fun W hW=>hsp W (hE.trans hW)) ?_
   go_simp
   refine Zfq (by kernel_rfl) (fun W hW b hA hbl hbo=> ?_)
   obtain⟨bx,rfl⟩:∃bx,bx=b:=⟨_,rfl⟩
   have hE4:=hW
   clear hW
   go_simp
   refine Zfp 1 (by kernel_rfl) (fun W hW=> ?_)
   simp only[List.drop_succ_cons,List.drop_zero]
   replace hbo:=hW.get hbo
   have hEW:=(hE.trans hE4).trans hW
   have hbw:w.heap.size≤bx:=by have h1:=hA;have h2:=hE.size;omega
   have hl0:=Z5 hb
   have hP:=set_pair hbo (.int .i64 pa) (.int .i64 pb)
   have hC:=Zfl (i:=0) (j:=1) (u:= .int .i64 pa) (v:= .int .i64 pb) (show w.heap.size≠bx by omega) (hW.get (hE4.get hb))
   have hEY:=(hEW.setCell ⟨bx,0,none⟩ (.int .i64 pa) hbw).setCell ⟨bx,1,none⟩ (.int .i64 pb) hbw
   have g:=Zc hbo;have p0:=g.1;have p1:=g.2.1;have p2:=g.2.2.1;have p3:=g.2.2.2
   clear g hEW hE hE4 hW hA hbl hb hl0 hbw q0 q1 q2 q3 q4 g0 g1 g2 g3 g4 ks kc s0 hc hsp
   go_wp2_with fail
   generalize (W.setCell ⟨bx,0,none⟩ (.int .i64 pa)).setCell ⟨bx,1,none⟩ (.int .i64 pb)=Y at*
   clear p0 p1 p2 p3 hbo
   refine Zfm ?_
   have y:=Zc hP;have y0:=y.1;have y1:=y.2.1
   clear y
   by_cases hgt:pb<pa
   ·have hle:decide (pa≤pb)=false:=by simp;omega
    go_wp2_with fail
    go_ret
    exact⟨ZP (a:=false) (by rw[HN.out,hle];rfl),hEY⟩
   ·have hle:decide (pa≤pb)=true:=by simp;omega
    have HN2:Hid (Z20 r0 r1 r2 r3 S l=(l.drop (i+1)).all (Zg6 r0 r1 r2 r3 S l)):=by show _=_;rw[HN.out,hle];rfl
    clear hle HN
    go_wp2_with fail
    exact⟨⟨i+1,by omega,by push_cast;rfl,hEY,hC,HN2⟩,by simp[intOf];omega⟩
theorem Zgh(s:Rs):okS s=(inR s.a 0 90&&decide (0≤s.m∧s.m≤s.M∧s.M≤99999)&&inR s.wi 0 9&&inR s.li 0 9):=rfl
theorem Zga(r0 r1 r2 r3:Int):Z5y r0 r1 r2 r3=if inR r0 0 999&&inR r1 0 999&&inR r2 0 999&&inR r3 0 999&&decide (r0≤r1) then 0 else 1:=rfl
theorem ZfQ(r0 r1 r2 r3:Int)(base:Option Addr)(n cap:Nat)(S:List Rs)(w:World)(hlen:S.length=n)(hS:RawS w base S):
 Calls prog 63 #[.agg #[.int .i64 r0,.int .i64 r1,.int .i64 r2,.int .i64 r3,.slice base n cap]] w fun e w'=>e= .returned (.int .i64 (ZC r0 r1 r2 r3 S))∧Ext w w':=by
 have H0:Hid (ZC r0 r1 r2 r3 S=if inR r0 0 999&&inR r1 0 999&&inR r2 0 999&&inR r3 0 999&&decide (r0≤r1) then(if 8<n then 2 else if(S.drop 0).all okS then 0 else 1) else 1):=by
  show _=_
  rw[ZC,firstV,Zga]
  by_cases h:(inR r0 0 999&&inR r1 0 999&&inR r2 0 999&&inR r3 0 999&&decide (r0≤r1))=true
  ·rw[if_pos h,if_pos h,if_pos rfl,firstV,Z23,hlen]
   by_cases h8:8<n
   ·simp[h8]
   ·rw[if_neg h8,List.drop_zero]
    by_cases ha:S.all okS=true
    ·simp[h8,ha,firstV]
    ·simp[h8,ha]
  ·rw[if_neg h,if_neg h,if_neg (by decide)]
 have hr0:=fun W=>Zgc r0 0 999 W;have hr1:=fun W=>Zgc r1 0 999 W;have hr2:=fun W=>Zgc r2 0 999 W;have hr3:=fun W=>Zgc r3 0 999 W
 generalize inR r0 0 999=b0 at*
 generalize inR r1 0 999=b1 at*
 generalize inR r2 0 999=b2 at*
 generalize inR r3 0 999=b3 at*
 have hE0:=((Ext.rfl' w).alloc (.cells #[.int .i64 r0,.int .i64 r1,.int .i64 r2,.int .i64 r3,.slice base n cap] 70)).alloc (.cells #[.int .i64 r0,.int .i64 r1,.int .i64 r2,.int .i64 r3] 67)
 have hb0:((w.alloc (.cells #[.int .i64 r0,.int .i64 r1,.int .i64 r2,.int .i64 r3,.slice base n cap] 70)).alloc (.cells #[.int .i64 r0,.int .i64 r1,.int .i64 r2,.int .i64 r3] 67)).heap[w.heap.size]? =some (.cells #[.int .i64 r0,.int .i64 r1,.int .i64 r2,.int .i64 r3,.slice base n cap] 70):=by
  simp only[Z3,Z2];rw[if_neg (by omega),if_pos trivial]
 replace hlen:Hid (S.length=n):=hlen
 have hS2:Hid (RawS w base S):=hS
 clear hS
 cases b0 with
 |false=>(
   have H1:Hid (ZC r0 r1 r2 r3 S=1):=by show _=_;rw[H0.out];simp
   clear H0
   go_enter func63,ntmps63
   go_wp2_with (first|(go_at_call 93;(with_reducible refine(hr0 _).mono ?_);rintro e w2 ⟨rfl,rfl⟩)|(go_at_call 93;(with_reducible refine(hr1 _).mono ?_);rintro e w2 ⟨rfl,rfl⟩)|(go_at_call 93;(with_reducible refine(hr2 _).mono ?_);rintro e w2 ⟨rfl,rfl⟩)|(go_at_call 93;(with_reducible refine(hr3 _).mono ?_);rintro e w2 ⟨rfl,rfl⟩))
   go_ret
   exact⟨ZK (a:=1) H1.out.symm,hE0⟩)
 |true=>
  cases b1 with
  |false=>(
    have H1:Hid (ZC r0 r1 r2 r3 S=1):=by show _=_;rw[H0.out];simp
    clear H0
    go_enter func63,ntmps63
    go_wp2_with (first|(go_at_call 93;(with_reducible refine(hr0 _).mono ?_);rintro e w2 ⟨rfl,rfl⟩)|(go_at_call 93;(with_reducible refine(hr1 _).mono ?_);rintro e w2 ⟨rfl,rfl⟩)|(go_at_call 93;(with_reducible refine(hr2 _).mono ?_);rintro e w2 ⟨rfl,rfl⟩)|(go_at_call 93;(with_reducible refine(hr3 _).mono ?_);rintro e w2 ⟨rfl,rfl⟩))
    go_ret
    exact⟨ZK (a:=1) H1.out.symm,hE0⟩)
  |true=>
   cases b2 with
   |false=>(
     have H1:Hid (ZC r0 r1 r2 r3 S=1):=by show _=_;rw[H0.out];simp
     clear H0
     go_enter func63,ntmps63
     go_wp2_with (first|(go_at_call 93;(with_reducible refine(hr0 _).mono ?_);rintro e w2 ⟨rfl,rfl⟩)|(go_at_call 93;(with_reducible refine(hr1 _).mono ?_);rintro e w2 ⟨rfl,rfl⟩)|(go_at_call 93;(with_reducible refine(hr2 _).mono ?_);rintro e w2 ⟨rfl,rfl⟩)|(go_at_call 93;(with_reducible refine(hr3 _).mono ?_);rintro e w2 ⟨rfl,rfl⟩))
     go_ret
     exact⟨ZK (a:=1) H1.out.symm,hE0⟩)
   |true=>
    cases b3 with
    |false=>(
      have H1:Hid (ZC r0 r1 r2 r3 S=1):=by show _=_;rw[H0.out];simp
      clear H0
      go_enter func63,ntmps63
      go_wp2_with (first|(go_at_call 93;(with_reducible refine(hr0 _).mono ?_);rintro e w2 ⟨rfl,rfl⟩)|(go_at_call 93;(with_reducible refine(hr1 _).mono ?_);rintro e w2 ⟨rfl,rfl⟩)|(go_at_call 93;(with_reducible refine(hr2 _).mono ?_);rintro e w2 ⟨rfl,rfl⟩)|(go_at_call 93;(with_reducible refine(hr3 _).mono ?_);rintro e w2 ⟨rfl,rfl⟩))
      go_ret
      exact⟨ZK (a:=1) H1.out.symm,hE0⟩)
    |true=>
     by_cases hr:r0≤r1
     ·have hrd:decide (r0≤r1)=true:=decide_eq_true hr
      rw[hrd] at H0
      simp only[Bool.and_self,if_true] at H0
      clear hrd
      by_cases h8:8<n
      ·have h8i:(8:Int)<(n:Int):=by omega
       have H1:Hid (ZC r0 r1 r2 r3 S=2):=by show _=_;rw[H0.out,if_pos h8]
       clear H0 h8
       go_enter func63,ntmps63
       go_wp2_with (first|(go_at_call 93;(with_reducible refine(hr0 _).mono ?_);rintro e w2 ⟨rfl,rfl⟩)|(go_at_call 93;(with_reducible refine(hr1 _).mono ?_);rintro e w2 ⟨rfl,rfl⟩)|(go_at_call 93;(with_reducible refine(hr2 _).mono ?_);rintro e w2 ⟨rfl,rfl⟩)|(go_at_call 93;(with_reducible refine(hr3 _).mono ?_);rintro e w2 ⟨rfl,rfl⟩))
       go_ret
       exact⟨ZK (a:=2) H1.out.symm,hE0⟩
      ·have h8i:(n:Int)≤8:=by omega
       have H1:Hid (ZC r0 r1 r2 r3 S=if(S.drop 0).all okS then 0 else 1):=by show _=_;rw[H0.out,if_neg h8]
       clear H0 h8
       go_enter func63,ntmps63
       go_wp2_with (first|(go_at_call 93;(with_reducible refine(hr0 _).mono ?_);rintro e w2 ⟨rfl,rfl⟩)|(go_at_call 93;(with_reducible refine(hr1 _).mono ?_);rintro e w2 ⟨rfl,rfl⟩)|(go_at_call 93;(with_reducible refine(hr2 _).mono ?_);rintro e w2 ⟨rfl,rfl⟩)|(go_at_call 93;(with_reducible refine(hr3 _).mono ?_);rintro e w2 ⟨rfl,rfl⟩))
       clear hr0 hr1 hr2 hr3
       go_loopw [4] (fun v wr=>∃i:Nat,i≤n∧v= .int .i64 i∧Ext w wr∧wr.heap[w.heap.size]? =some (.cells #[.int .i64 r0,.int .i64 r1,.int .i64 r2,.int .i64 r3,.slice base n cap] 70)∧Hid (ZC r0 r1 r2 r3 S=if(S.drop i).all okS then 0 else 1)) (fun v _=>n - (intOf v).toNat)
       case atStart=>exact⟨0,Nat.zero_le _,rfl,hE0,hb0,H1⟩
       case round=>
        clear hE0 hb0 H1
        obtain⟨i,hi,rfl,hE,hb,HP⟩:=hrel
        have q4:=Z0 hb 4
        simp only[List.getElem?_toArray,List.getElem?_cons_zero,List.getElem?_cons_succ] at q4
        by_cases hin:i=n
        ·subst hin
         have HR:Hid (ZC r0 r1 r2 r3 S=0):=by show _=_;rw[HP.out,List.drop_of_length_le (by have:=hlen.out;omega)];rfl
         clear HP
         go_wp2
         go_ret
         exact⟨ZK (a:=0) HR.out.symm,hE⟩
        ·have hlt:i<n:=by omega
         have hlt2:(i:Int)<(n:Int):=by omega
         obtain⟨s,hs⟩:∃s,S[i]? =some s:=⟨_,List.getElem?_eq_getElem (by have:=hlen.out;omega)⟩
         obtain⟨BS,OS,rfl,hBS,sh⟩:=hS2.out i s hs
         have HN:Hid (ZC r0 r1 r2 r3 S=if inR s.a 0 90&&decide (0≤s.m∧s.m≤s.M∧s.M≤99999)&&inR s.wi 0 9&&inR s.li 0 9&&(S.drop (i+1)).all okS then 0 else 1):=by show _=_;rw[HP.out,Z0b hs,List.all_cons,Zgh]
         have s0:=hE.cellS sh.c0;have s1:=hE.cellS sh.c1;have s2:=hE.cellS sh.c2;have s3:=hE.cellS sh.c3;have s4:=hE.cellS sh.c4
         have hr0:=fun W=>Zgc s.a 0 90 W;have hr2:=fun W=>Zgc s.wi 0 9 W;have hr3:=fun W=>Zgc s.li 0 9 W
         have hr1:=fun W=>Z2e s.m s.M 0 99999 W
         clear HP hs sh hS2
         generalize inR s.a 0 90=b0 at*
         generalize decide (0≤s.m∧s.m≤s.M∧s.M≤99999)=b1 at*
         generalize inR s.wi 0 9=b2 at*
         generalize inR s.li 0 9=b3 at*
         have hE2:=hE.alloc (.cells #[.int .i64 s.a,.int .i64 s.m,.int .i64 s.M,.int .i64 s.wi,.int .i64 s.li] 80)
         have hb2:=((Ext.rfl' wr).alloc (.cells #[.int .i64 s.a,.int .i64 s.m,.int .i64 s.M,.int .i64 s.wi,.int .i64 s.li] 80)).get hb
         have hx2:(wr.alloc (.cells #[.int .i64 s.a,.int .i64 s.m,.int .i64 s.M,.int .i64 s.wi,.int .i64 s.li] 80)).heap[wr.heap.size]? =some (.cells #[.int .i64 s.a,.int .i64 s.m,.int .i64 s.M,.int .i64 s.wi,.int .i64 s.li] 80):=by rw[Z3,if_pos rfl]
         cases b0 with
         |false=>(
           have HN2:Hid (ZC r0 r1 r2 r3 S=1):=by show _=_;rw[HN.out];simp
           clear HN
           go_wp2_with (first|(go_at_call 93;(with_reducible refine(hr0 _).mono ?_);rintro e w2 ⟨rfl,rfl⟩)|(go_at_call 95;(with_reducible refine(hr1 _).mono ?_);rintro e w9 ⟨rfl,hE9⟩;replace hE2:=hE2.trans hE9;replace hb2:=hE9.get hb2;replace hx2:=hE9.get hx2;clear hE9;have y0:=Z0 hx2 0;have y1:=Z0 hx2 1;have y2:=Z0 hx2 2;have y3:=Z0 hx2 3;have y4:=Z0 hx2 4;simp only[List.getElem?_toArray,List.getElem?_cons_zero,List.getElem?_cons_succ] at y0 y1 y2 y3 y4)|(go_at_call 93;(with_reducible refine(hr2 _).mono ?_);rintro e w2 ⟨rfl,rfl⟩)|(go_at_call 93;(with_reducible refine(hr3 _).mono ?_);rintro e w2 ⟨rfl,rfl⟩))
           go_ret
           exact⟨ZK (a:=1) HN2.out.symm,hE2⟩)
         |true=>
          cases b1 with
          |false=>(
            have HN2:Hid (ZC r0 r1 r2 r3 S=1):=by show _=_;rw[HN.out];simp
            clear HN
            go_wp2_with (first|(go_at_call 93;(with_reducible refine(hr0 _).mono ?_);rintro e w2 ⟨rfl,rfl⟩)|(go_at_call 95;(with_reducible refine(hr1 _).mono ?_);rintro e w9 ⟨rfl,hE9⟩;replace hE2:=hE2.trans hE9;replace hb2:=hE9.get hb2;replace hx2:=hE9.get hx2;clear hE9;have y0:=Z0 hx2 0;have y1:=Z0 hx2 1;have y2:=Z0 hx2 2;have y3:=Z0 hx2 3;have y4:=Z0 hx2 4;simp only[List.getElem?_toArray,List.getElem?_cons_zero,List.getElem?_cons_succ] at y0 y1 y2 y3 y4)|(go_at_call 93;(with_reducible refine(hr2 _).mono ?_);rintro e w2 ⟨rfl,rfl⟩)|(go_at_call 93;(with_reducible refine(hr3 _).mono ?_);rintro e w2 ⟨rfl,rfl⟩))
            go_ret
            exact⟨ZK (a:=1) HN2.out.symm,hE2⟩)
          |true=>
           cases b2 with
           |false=>(
             have HN2:Hid (ZC r0 r1 r2 r3 S=1):=by show _=_;rw[HN.out];simp
             clear HN
             go_wp2_with (first|(go_at_call 93;(with_reducible refine(hr0 _).mono ?_);rintro e w2 ⟨rfl,rfl⟩)|(go_at_call 95;(with_reducible refine(hr1 _).mono ?_);rintro e w9 ⟨rfl,hE9⟩;replace hE2:=hE2.trans hE9;replace hb2:=hE9.get hb2;replace hx2:=hE9.get hx2;clear hE9;have y0:=Z0 hx2 0;have y1:=Z0 hx2 1;have y2:=Z0 hx2 2;have y3:=Z0 hx2 3;have y4:=Z0 hx2 4;simp only[List.getElem?_toArray,List.getElem?_cons_zero,List.getElem?_cons_succ] at y0 y1 y2 y3 y4)|(go_at_call 93;(with_reducible refine(hr2 _).mono ?_);rintro e w2 ⟨rfl,rfl⟩)|(go_at_call 93;(with_reducible refine(hr3 _).mono ?_);rintro e w2 ⟨rfl,rfl⟩))
             go_ret
             exact⟨ZK (a:=1) HN2.out.symm,hE2⟩)
           |true=>
            cases b3 with
            |false=>(
              have HN2:Hid (ZC r0 r1 r2 r3 S=1):=by show _=_;rw[HN.out];simp
              clear HN
              go_wp2_with (first|(go_at_call 93;(with_reducible refine(hr0 _).mono ?_);rintro e w2 ⟨rfl,rfl⟩)|(go_at_call 95;(with_reducible refine(hr1 _).mono ?_);rintro e w9 ⟨rfl,hE9⟩;replace hE2:=hE2.trans hE9;replace hb2:=hE9.get hb2;replace hx2:=hE9.get hx2;clear hE9;have y0:=Z0 hx2 0;have y1:=Z0 hx2 1;have y2:=Z0 hx2 2;have y3:=Z0 hx2 3;have y4:=Z0 hx2 4;simp only[List.getElem?_toArray,List.getElem?_cons_zero,List.getElem?_cons_succ] at y0 y1 y2 y3 y4)|(go_at_call 93;(with_reducible refine(hr2 _).mono ?_);rintro e w2 ⟨rfl,rfl⟩)|(go_at_call 93;(with_reducible refine(hr3 _).mono ?_);rintro e w2 ⟨rfl,rfl⟩))
              go_ret
              exact⟨ZK (a:=1) HN2.out.symm,hE2⟩)
            |true=>
             have HN2:Hid (ZC r0 r1 r2 r3 S=if(S.drop (i+1)).all okS then 0 else 1):=by show _=_;rw[HN.out];rfl
             clear HN
             go_wp2_with (first|(go_at_call 93;(with_reducible refine(hr0 _).mono ?_);rintro e w2 ⟨rfl,rfl⟩)|(go_at_call 95;(with_reducible refine(hr1 _).mono ?_);rintro e w9 ⟨rfl,hE9⟩;replace hE2:=hE2.trans hE9;replace hb2:=hE9.get hb2;replace hx2:=hE9.get hx2;clear hE9;have y0:=Z0 hx2 0;have y1:=Z0 hx2 1;have y2:=Z0 hx2 2;have y3:=Z0 hx2 3;have y4:=Z0 hx2 4;simp only[List.getElem?_toArray,List.getElem?_cons_zero,List.getElem?_cons_succ] at y0 y1 y2 y3 y4)|(go_at_call 93;(with_reducible refine(hr2 _).mono ?_);rintro e w2 ⟨rfl,rfl⟩)|(go_at_call 93;(with_reducible refine(hr3 _).mono ?_);rintro e w2 ⟨rfl,rfl⟩))
             go_roundw
             case rel=>exact⟨i+1,by omega,by push_cast;rfl,hE2,hb2,HN2⟩
             case measure=>simp[intOf];omega
     ·have hrd:decide (r0≤r1)=false:=decide_eq_false hr
      have hri:r1<r0:=by omega
      have H1:Hid (ZC r0 r1 r2 r3 S=1):=by show _=_;rw[H0.out,hrd];simp
      clear H0 hrd
      go_enter func63,ntmps63
      go_wp2_with (first|(go_at_call 93;(with_reducible refine(hr0 _).mono ?_);rintro e w2 ⟨rfl,rfl⟩)|(go_at_call 93;(with_reducible refine(hr1 _).mono ?_);rintro e w2 ⟨rfl,rfl⟩)|(go_at_call 93;(with_reducible refine(hr2 _).mono ?_);rintro e w2 ⟨rfl,rfl⟩)|(go_at_call 93;(with_reducible refine(hr3 _).mono ?_);rintro e w2 ⟨rfl,rfl⟩))
      go_ret
      exact⟨ZK (a:=1) H1.out.symm,hE0⟩
end Go.Proofs.Tryq
namespace Go.Proofs.Tryq
set_option maxRecDepth 100000
set_option maxHeartbeats 8000000
open Go Go.Nk Go.RowKit
set_option linter.all false
theorem ShotAt.ext5{w w':World}{b off:Nat}{x0 x1 x2 x3 x4:Int}(h:ShotAt w b off x0 x1 x2 x3 x4)(e:Ext w w'):w'.cell? ⟨b,off,none⟩=some (.int .i64 x0)∧w'.cell? ⟨b,off+1,none⟩=some (.int .i64 x1)∧w'.cell? ⟨b,off+2,none⟩=some (.int .i64 x2)∧w'.cell? ⟨b,off+3,none⟩=some (.int .i64 x3)∧w'.cell? ⟨b,off+4,none⟩=some (.int .i64 x4):=
 ⟨e.cellS h.c0,e.cellS h.c1,e.cellS h.c2,e.cellS h.c3,e.cellS h.c4⟩
theorem ZhX(r0 r1 r2 r3:Int)(base:Option Addr)(n cap:Nat)(S:List Rs)(k:Int)(w:World)(hlen:S.length=n)(hn:n≤20)(hS:RawS w base S):
 Calls prog 119 #[.agg #[.int .i64 r0,.int .i64 r1,.int .i64 r2,.int .i64 r3,.slice base n cap],.int .i64 k] w fun e w'=>e= .returned (.int .i64 (Z1e r0 r1 r2 r3 S k))∧Ext w w':=by
 have hc:=fun W (hW:Ext w W)=>ZfQ r0 r1 r2 r3 base n cap S W hlen (hS.ext hW)
 have hin:=fun W=>Z4r k 0 ((n:Int) - 1) W
 have hF:Z1e r0 r1 r2 r3 S k=if ZC r0 r1 r2 r3 S=0 then(if 0≤k∧k≤(n:Int) - 1 then 0 else 6) else ZC r0 r1 r2 r3 S:=by
  rw[Z1e,firstV]
  split
  ·simp only[firstV,Z6r,hlen]
   have e:(0≤k∧k≤(n:Int) - 1)↔(0≤k∧k<(n:Int)):=by omega
   simp only[e]
   by_cases h:0≤k∧k<(n:Int)
   ·rw[if_pos h];rfl
   ·rw[if_neg h];rfl
  ·rfl
 rw[hF]
 clear hF
 by_cases h0:ZC r0 r1 r2 r3 S=0
 ·rw[if_pos h0]
  simp only[h0] at hc
  by_cases hk:0≤k∧k≤(n:Int) - 1
  ·rw[if_pos hk]
   rw[decide_eq_true hk] at hin
   clear hk
   go_enter func119,ntmps119
   go_wp2_with (first
    |(go_at_call 63;refine(hc _ ((Ext.rfl' w).alloc _)).mono ?_;rintro e w2 ⟨rfl,hE2⟩
      have g:=hE2.get ((Z3 _ _ _).trans (if_pos rfl))
      have q4:=Z0 g 4
      have hE3:=((Ext.rfl' w).alloc _).trans hE2
      simp only[List.getElem?_toArray,List.getElem?_cons_zero,List.getElem?_cons_succ] at q4)
    |(go_at_call 93;refine(hin _).mono ?_;rintro e w3 ⟨rfl,rfl⟩))
   go_ret
   exact⟨rfl,hE3⟩
  ·rw[if_neg hk]
   rw[decide_eq_false hk] at hin
   clear hk
   go_enter func119,ntmps119
   go_wp2_with (first
    |(go_at_call 63;refine(hc _ ((Ext.rfl' w).alloc _)).mono ?_;rintro e w2 ⟨rfl,hE2⟩
      have g:=hE2.get ((Z3 _ _ _).trans (if_pos rfl))
      have q4:=Z0 g 4
      have hE3:=((Ext.rfl' w).alloc _).trans hE2
      simp only[List.getElem?_toArray,List.getElem?_cons_zero,List.getElem?_cons_succ] at q4)
    |(go_at_call 93;refine(hin _).mono ?_;rintro e w3 ⟨rfl,rfl⟩))
   go_ret
   exact⟨rfl,hE3⟩
 ·rw[if_neg h0]
  have hne:(ZC r0 r1 r2 r3 S !=0)=true:=by simpa using h0
  generalize ZC r0 r1 r2 r3 S=f at hc hne⊢
  go_enter func119,ntmps119
  go_wp2_with (first
   |(go_at_call 63;refine(hc _ ((Ext.rfl' w).alloc _)).mono ?_;rintro e w2 ⟨rfl,hE2⟩))
  go_ret
  exact⟨rfl,((Ext.rfl' w).alloc _).trans hE2⟩
theorem Zi4(r0 r1 r2 r3:Int)(base:Option Addr)(n cap:Nat)(S:List Rs)(k:Int)(w:World)(hlen:S.length=n)(hn:n≤20)(hS:RawS w base S):
 Calls prog 61 #[.agg #[.int .i64 r0,.int .i64 r1,.int .i64 r2,.int .i64 r3,.slice base n cap],.int .i64 k] w fun e w'=>e= .returned (.tuple #[.agg #[.int .i64 (Zau r0 r1 r2 r3 S k).1,.int .i64 (Zau r0 r1 r2 r3 S k).2],.int .i64 (Z1e r0 r1 r2 r3 S k)])∧Ext w w':=by
 have hc:=fun W (hW:Ext w W)=>ZhX r0 r1 r2 r3 base n cap S k W hlen hn (hS.ext hW)
 have hE0:Ext w ((w.alloc (.cells #[.int .i64 r0,.int .i64 r1,.int .i64 r2,.int .i64 r3,.slice base n cap] 70)).alloc (.cells #[.int .i64 0,.int .i64 0] 48)):=((Ext.rfl' w).alloc _).alloc _
 have hr0:((w.alloc (.cells #[.int .i64 r0,.int .i64 r1,.int .i64 r2,.int .i64 r3,.slice base n cap] 70)).alloc (.cells #[.int .i64 0,.int .i64 0] 48)).heap[w.heap.size]? =some (.cells #[.int .i64 r0,.int .i64 r1,.int .i64 r2,.int .i64 r3,.slice base n cap] 70):=by
  simp only[Z3,Z2];rw[if_neg (by omega),if_pos trivial]
 have hz0:((w.alloc (.cells #[.int .i64 r0,.int .i64 r1,.int .i64 r2,.int .i64 r3,.slice base n cap] 70)).alloc (.cells #[.int .i64 0,.int .i64 0] 48)).heap[w.heap.size+1]? =some (.cells #[.int .i64 0,.int .i64 0] 48):=by
  simp only[Z3,Z2];rw[if_pos trivial]
 by_cases h:Z1e r0 r1 r2 r3 S k=0
 ·rw[h] at hc
  have hin:0≤k∧k<n:=by
   have h2:=firstV_all h (Z6r S.length k) (by simp)
   unfold Z6r at h2
   rw[hlen] at h2
   split at h2
   ·assumption
   ·omega
  obtain⟨K,rfl⟩:=Int.eq_ofNat_of_zero_le hin.1
  obtain⟨s,hs⟩:∃s,S[K]? =some s:=⟨_,List.getElem?_eq_getElem (by omega)⟩
  rw[Zau,if_pos h,h,Int.toNat_natCast,hs]
  simp only
  have hwd:=fun W=>ZfZ r0 r1 r2 r3 s W
  obtain⟨va,hva⟩:∃x,x=(Z68 r2 r3 s).1:=⟨_,rfl⟩
  obtain⟨vb,hvb⟩:∃x,x=(Z68 r2 r3 s).2:=⟨_,rfl⟩
  rw[←hva,←hvb] at hwd⊢
  obtain⟨BS,OS,rfl,hBS,sh0⟩:=hS K s hs
  clear h hva hvb hs hS
  go_enter func61,ntmps61
  go_wp2_with (first
   |(go_at_call 119;(with_reducible refine(hc _ hE0).mono ?_);rintro e w2 ⟨rfl,hF⟩
     have hr:=hF.get hr0;have hz:=hF.get hz0
     have hE:=hE0.trans hF))
  clear hc hF hr0 hz0 hE0
  obtain⟨q0,q1,q2,q3,q4⟩:=Zh3 hr
  have g0:=Zet q0;have g1:=Zet q1;have g2:=Zet q2;have g3:=Zet q3;have g4:=Zet q4
  have sh:=ShotAt.ext5 sh0 hE
  obtain⟨c0,c1,c2,c3,c4⟩:=sh
  have k0:=Zet c0;have k1:=Zet c1;have k2:=Zet c2;have k3:=Zet c3;have k4:=Zet c4
  have hK1:(0:Int)≤(K:Int):=by omega
  have hK2:(K:Int)<(n:Int):=by omega
  have hK3:K<n:=by omega
  refine ZeG 8 (by kernel_rfl) ?_
  refine ZeB [0,1,2,3,4,5,6] (by kernel_rfl) (by kernel_rfl) ?_
  simp only[ZeD,List.getElem?_cons_succ,List.getElem?_cons_zero,List.cons_append,List.nil_append]
  repeat (go_big_quiet_step (fail))
  refine wpQuiet_nil ?_
  refine ZeX 7 (f:=120) (args:= #[.agg #[.int .i64 r0,.int .i64 r1,.int .i64 r2,.int .i64 r3],.agg #[.int .i64 s.a,.int .i64 s.m,.int .i64 s.M,.int .i64 s.wi,.int .i64 s.li]]) (v:= .agg #[.int .i64 va,.int .i64 vb]) (by kernel_rfl) rfl (by kernel_rfl) rfl (fun W=>by simp[go_sem,execOp,Act.eval]) (fun W _=>hwd W) ?_
  go_simp
  refine Zfp 2 (by kernel_rfl) (fun W hW=> ?_)
  simp only[List.drop_succ_cons,List.drop_zero]
  have hEW:=hE.trans hW
  replace hz:=hW.get hz
  clear q0 q1 q2 q3 q4 g0 g1 g2 g3 g4 k0 k1 k2 k3 k4 c0 c1 c2 c3 c4 hr hW hE hwd
  have u0:=Z0 hz 0;have u1:=Z0 hz 1;have v0:=Z8 hz 0;have v1:=Z8 hz 1
  simp only[List.getElem?_toArray,List.getElem?_cons_zero,List.getElem?_cons_succ] at u0 u1
  go_wp2_with fail
  refine Zfm ?_
  go_wp2_with fail
  refine bodyPost_ret (v:= .tuple #[.agg #[.int .i64 va,.int .i64 vb],.int .i64 0]) ((Z01 rfl _ _ _).trans ?_) rfl ⟨rfl,(hEW.setCell _ _ (by simp)).setCell _ _ (by simp)⟩
  have hq:=Zc (set_pair hz (.int .i64 va) (.int .i64 vb))
  simp[go_sem,hq.1,hq.2.1]
 ·rw[Zau,if_neg h]
  have hne:(Z1e r0 r1 r2 r3 S k !=0)=true:=by simpa using h
  generalize Z1e r0 r1 r2 r3 S k=f at hc hne⊢
  go_enter func61,ntmps61
  go_wp2_with (first
   |(go_at_call 119;(with_reducible refine(hc _ hE0).mono ?_);rintro e w2 ⟨rfl,hF⟩
     have hz:=hF.get hz0
     have hE:=hE0.trans hF
     have p:=Zc hz;have p0:=p.1;have p1:=p.2.1;have p2:=p.2.2.1;have p3:=p.2.2.2;clear p))
  have hh:=Zc (set_pair hz (.int .i64 0) (.int .i64 0))
  have hh0:=hh.1;have hh1:=hh.2.1
  refine bodyPost_ret (v:= .tuple #[.agg #[.int .i64 0,.int .i64 0],.int .i64 f]) ((Z01 rfl _ _ _).trans ?_) rfl ⟨rfl,(hE.setCell _ _ (by simp)).setCell _ _ (by simp)⟩
  simp[go_sem,hh0,hh1]
theorem Zi5(r0 r1 r2 r3:Int)(base:Option Addr)(n cap:Nat)(S:List Rs)(w:World)(hlen:S.length=n)(hS:RawS w base S):
 Calls prog 65 #[.agg #[.int .i64 r0,.int .i64 r1,.int .i64 r2,.int .i64 r3,.slice base n cap]] w fun e w'=>e= .returned (.tuple #[.bool (ZC r0 r1 r2 r3 S==0&&Z20 r0 r1 r2 r3 S (upL n)),.int .i64 (ZC r0 r1 r2 r3 S)])∧Ext w w':=by
 have hck:=fun W (hW:Ext w W)=>ZfQ r0 r1 r2 r3 base n cap S W hlen (hS.ext hW)
 by_cases h:ZC r0 r1 r2 r3 S=0
 ·rw[h] at hck
  have hc:=Zav h
  have hn8:n≤8:=by rw[←hlen];exact hc.len
  have hul:(upL n).length=n:=by simp[upL]
  have hup:=fun W (_:Ext w W)=>Zg9 n W (by omega)
  have hft:=fun W ao cp (hW:Ext w W)(hI:RawI W ao (upL n))=>Zg2 r0 r1 r2 r3 base n cap S ao n cp (upL n) W hlen (by omega) hul (by omega) (fun j hj=>mem_upLs.1 hj) (hS.ext hW) hI
  rw[h]
  have hb:((0:Int)==0&&Z20 r0 r1 r2 r3 S (upL n))=Z20 r0 r1 r2 r3 S (upL n):=by simp
  rw[hb]
  generalize Z20 r0 r1 r2 r3 S (upL n)=fb at hft⊢
  replace hul:Hid ((upL n).length=n):=hul
  clear hb h hc hS
  go_enter func65,ntmps65
  go_wp2_with (first
   |(go_at_call 63;refine(hck _ ((Ext.rfl' w).alloc _)).mono ?_;rintro e w2 ⟨rfl,hE2⟩
     have hr:=hE2.get (b:=w.heap.size) (o:= .cells #[.int .i64 r0,.int .i64 r1,.int .i64 r2,.int .i64 r3,.slice base n cap] 70) ((Z3 _ _ _).trans (if_pos rfl))
     have hE:=((Ext.rfl' w).alloc _).trans hE2))
  obtain⟨q0,q1,q2,q3,q4⟩:=Zh3 hr
  have g0:=Zet q0;have g1:=Zet q1;have g2:=Zet q2;have g3:=Zet q3;have g4:=Zet q4
  clear hck hr hE2
  refine ZeG 8 (by kernel_rfl) ?_
  refine ZeB [0,1,2,3] (by kernel_rfl) (by kernel_rfl) ?_
  simp only[ZeD,List.getElem?_cons_succ,List.getElem?_cons_zero,List.cons_append,List.nil_append]
  repeat (go_big_quiet_step (fail))
  refine wpQuiet_nil ?_
  refine Zfa 4 rfl (by kernel_rfl) rfl (fun W hW=>Zfo (f:=44) (args:= #[.int .i64 n]) (by simp[go_sem,execOp,Act.eval]) ?_)
  refine(hup W (hE.trans hW)).mono ?_
  rintro e W2 ⟨x,rfl,hx9,hE3⟩
  obtain⟨bl,cl,rfl,hI,hcl⟩:=hx9.rawI
  rw[show(upL n).length=n from hul.out] at hcl
  rw[show(upL n).length=n from hul.out]
  refine⟨.slice bl n cl,rfl,hE3,?_⟩
  have hE5:=(hE.trans hW).trans hE3
  clear hE3 hW hx9
  clear W
  clear g0 g1 g2 g3 g4 q0 q1 q2 q3 q4
  go_simp
  refine ZeX 5 (f:=43) (args:= #[.agg #[.int .i64 r0,.int .i64 r1,.int .i64 r2,.int .i64 r3,.slice base n cap],.slice bl n cl]) (v:= .bool fb) (by kernel_rfl) rfl (by kernel_rfl) rfl (fun W=>by simp[go_sem,execOp,Act.eval]) (fun W hW=>hft W bl cl (hE5.trans hW) (hI.ext hW)) ?_
  go_simp
  refine ZeB [6,7] (by kernel_rfl) (by kernel_rfl) ?_
  simp only[ZeD,List.getElem?_cons_succ,List.getElem?_cons_zero,List.cons_append,List.nil_append]
  repeat (go_big_quiet_step (fail))
  refine wpQuiet_nil ?_
  refine Zf6 (by kernel_rfl) (fun W hW=> ?_)
  have hE8:=hE5.trans hW
  clear hE5 hW hI hcl
  go_wp2
  go_ret2
  exact⟨rfl,hE8⟩
 ·have hne:(ZC r0 r1 r2 r3 S !=0)=true:=by simpa using h
  have hz:(ZC r0 r1 r2 r3 S==0)=false:=by simpa using h
  rw[hz,Bool.false_and]
  clear hz
  generalize ZC r0 r1 r2 r3 S=f at hck hne⊢
  go_enter func65,ntmps65
  go_wp2_with (first
   |(go_at_call 63;refine(hck _ ((Ext.rfl' w).alloc _)).mono ?_;rintro e w2 ⟨rfl,hE2⟩))
  go_ret2
  exact⟨rfl,((Ext.rfl' w).alloc _).trans hE2⟩
theorem Zi1(r0 r1 r2 r3:Int)(base:Option Addr)(n cap:Nat)(S:List Rs)(w:World)(hlen:S.length=n)(hS:RawS w base S):
 Calls prog 69 #[.agg #[.int .i64 r0,.int .i64 r1,.int .i64 r2,.int .i64 r3,.slice base n cap]] w fun e w'=>∃bl cl,e= .returned (.tuple #[.slice bl (if ZC r0 r1 r2 r3 S=0 then Zcy r0 r1 r2 r3 S else[]).length cl,.int .i64 (ZC r0 r1 r2 r3 S)])∧RawI w' bl (if ZC r0 r1 r2 r3 S=0 then Zcy r0 r1 r2 r3 S else[])∧Ext w w':=by
 have hck:=fun W (hW:Ext w W)=>ZfQ r0 r1 r2 r3 base n cap S W hlen (hS.ext hW)
 by_cases h:ZC r0 r1 r2 r3 S=0
 ·rw[h] at hck
  have hc:=Zav h
  have hn8:n≤8:=by rw[←hlen];exact hc.len
  have hul:(upL n).length=n:=by simp[upL]
  have hup:=fun W (_:Ext w W)=>Zg9 n W (by omega)
  rw[if_pos h,h]
  obtain⟨C,hCe⟩:∃C,C=chooseR (upL n):=⟨_,rfl⟩
  have hch:=fun W ao cp (hW:Ext w W)(hcp:n≤cp)(hI:RawI W ao (upL n))=>Zhs n (upL n) ao cp W hul (by omega) hcp hI
  rw[←hCe] at hch
  have hC:Hid ((∀s∈C,s.length≤9∧∀q∈s,0≤q∧q<(n:Int))∧C≠[]∧C.length≤512):=by
   refine⟨fun s hs=> ?_,by rw[hCe,chooseR_head];simp,?_⟩
   ·rw[hCe] at hs
    exact⟨by have:=chooseR_each _ s hs;omega,fun q hq=>mem_upLs.1 ((chooseR_mem _ s hs).subset hq)⟩
   ·rw[hCe,chooseR_len,hul]
    exact Nat.pow_le_pow_right (n:=2) (by omega) (show n≤9 by omega)
  have hSA:Hid (RawS w base S):=hS
  replace hul:Hid ((upL n).length=n):=hul
  obtain⟨p,hp⟩:∃p:List Int→List Int→List Int,p=fun b l=>if decide (b.length<l.length)&&Z20 r0 r1 r2 r3 S l then l else b:=⟨_,rfl⟩
  have hR:Hid (Zcy r0 r1 r2 r3 S=C.foldl p []):=by show _=_;rw[Zcy,hlen,←hCe,hp]
  replace hp:Hid (p=fun b l=>if decide (b.length<l.length)&&Z20 r0 r1 r2 r3 S l then l else b):=hp
  generalize Zcy r0 r1 r2 r3 S=TR at hR⊢
  clear hCe h hc hS
  go_enter func69,ntmps69
  go_wp2_with (first
   |(go_at_call 63;refine(hck _ ((Ext.rfl' w).alloc _)).mono ?_;rintro e w2 ⟨rfl,hE2⟩
     have hr0:=hE2.get (b:=w.heap.size) (o:= .cells #[.int .i64 r0,.int .i64 r1,.int .i64 r2,.int .i64 r3,.slice base n cap] 70) ((Z3 _ _ _).trans (if_pos rfl))
     have hE0:=((Ext.rfl' w).alloc _).trans hE2
     have q4:=Z0 hr0 4
     simp only[List.getElem?_toArray,List.getElem?_cons_zero,List.getElem?_cons_succ] at q4)
   |(go_at_call 44;(with_reducible refine(hup _ hE0).mono ?_);rintro e w3 ⟨x,rfl,hx9,hF⟩
     obtain⟨bl,cl,rfl,hI,hcl⟩:=hx9.rawI
     rw[show(upL n).length=n from hul.out] at hcl
     rw[show(upL n).length=n from hul.out]
     replace hE0:=hE0.trans hF;replace hr0:=hF.get hr0)
   |(go_at_call 127;(with_reducible refine(hch _ bl cl hE0 hcl hI).mono ?_);rintro e w1 ⟨v,rfl,hSc,hF2⟩
     obtain⟨g,rc,rfl,hlo,hhi,hrc⟩:=hSc.own hC.out.2.1
     have hE1:=hE0.trans hF2;have hr1:=hF2.get hr0))
  clear hE0 hF2 hr0 hch hlo hhi hck hup q4 hI hcl hx9 hF
  have HP0:Hid ((C.take 0).foldl p []=[]):=rfl
  go_loopw [5,7] (fun v5 v7 wr=>∃(i:Nat)(B:List Int)(ao:Option Addr)(cb:Nat),i≤C.length∧v7= .int .i64 i∧v5= .slice ao B.length cb∧Ext w1 wr∧RawI wr ao B∧Hid ((C.take i).foldl p []=B)) (fun _ v7 _=>C.length - (intOf v7).toNat)
  case atStart=>exact⟨0,[],none,0,Nat.zero_le _,rfl,rfl,Ext.rfl' w1,(fun i x hx=>by simp at hx),HP0⟩
  case round=>
   clear HP0
   obtain⟨i,B,ao,cb,hi,rfl,rfl,hE,hB,HP⟩:=hrel
   by_cases hik:i=C.length
   ·have HQ:Hid (TR=B):=by show _=_;rw[hR.out,←HP.out,hik,List.take_length]
    subst hik
    clear HP
    go_wp2
    go_ret2
    rw[HQ.out]
    exact⟨ao,cb,rfl,hB,hE1.trans hE⟩
   ·have hlt:i<C.length:=by omega
    have hlt2:(i:Int)<(C.length:Int):=by omega
    have hib:(i:Int)<1000:=by have:=hC.out.2.2;omega
    obtain⟨s,hs⟩:∃s,C[i]? =some s:=⟨_,List.getElem?_eq_getElem hlt⟩
    obtain⟨ad,cp,hcu,hou,hcp⟩:=(hSc.ext hE).cellsO hs
    have hrs:=OwnI.rawP hou
    obtain⟨hs9,hsin⟩:=hC.out.1 s (List.mem_of_getElem? hs)
    have hr:=hE.get hr1
    have hft:=fun W (hW:Ext wr W)=>Zg2 r0 r1 r2 r3 base n cap S ad s.length cp s W hlen (by omega) rfl (by omega) hsin (hSA.out.ext ((hE1.trans hE).trans hW)) (hrs.ext hW)
    obtain⟨q0,q1,q2,q3,q4⟩:=Zh3 hr
    have g0:=Zet q0;have g1:=Zet q1;have g2:=Zet q2;have g3:=Zet q3;have g4:=Zet q4
    have gu:=Zet hcu
    clear hou
    have HN0:Hid ((C.take (i+1)).foldl p []=p B s):=by show _=_;rw[Z0G hs,List.foldl_append,HP.out];rfl
    have hps:p B s=if decide (B.length<s.length)&&Z20 r0 r1 r2 r3 S s then s else B:=by rw[hp.out]
    clear HP hs
    by_cases hlt3:B.length<s.length
    ·have hlt4:(B.length:Int)<(s.length:Int):=by omega
     cases hf:Z20 r0 r1 r2 r3 S s with
     |true=>
      have HN:Hid ((C.take (i+1)).foldl p []=s):=by show _=_;rw[HN0.out,hps,decide_eq_true hlt3,hf];rfl
      simp only[hf] at hft
      clear HN0 hps hf
      go_wp2
      refine ZeG 16 (by kernel_rfl) ?_
      refine ZeB [0,1,2,3,4,5,6,7,8,9,10,11,12,13] (by kernel_rfl) (by kernel_rfl) ?_
      simp only[ZeD,List.getElem?_cons_succ,List.getElem?_cons_zero,List.cons_append,List.nil_append]
      repeat (go_big_quiet_step (fail))
      refine wpQuiet_nil ?_
      refine ZeX 14 (f:=43) (args:= #[.agg #[.int .i64 r0,.int .i64 r1,.int .i64 r2,.int .i64 r3,.slice base n cap],.slice ad s.length cp]) (v:= .bool true) (by kernel_rfl) rfl (by kernel_rfl) rfl (fun W=>by simp[go_sem,execOp,Act.eval]) (hft) ?_
      go_simp
      refine ZeB [15] (by kernel_rfl) (by kernel_rfl) ?_
      simp only[ZeD,List.getElem?_cons_succ,List.getElem?_cons_zero,List.cons_append,List.nil_append]
      repeat (go_big_quiet_step (fail))
      refine wpQuiet_nil ?_
      refine Zf6 (by kernel_rfl) (fun W hW=> ?_)
      have hE3:=hE.trans hW
      have hcu3:=hW.cellS hcu;have hrs3:=hrs.ext hW
      clear hW hE hcu gu q0 q1 q2 q3 q4 g0 g1 g2 g3 g4 hr hft hB hrs
      go_wp2
      exact⟨⟨i+1,s,ad,cp,by omega,by push_cast;rfl,rfl,hE3,hrs3,HN⟩,by simp[intOf];omega⟩
     |false=>
      have HN:Hid ((C.take (i+1)).foldl p []=B):=by show _=_;rw[HN0.out,hps,hf,Bool.and_false];rfl
      simp only[hf] at hft
      clear HN0 hps hf hrs
      go_wp2
      refine ZeG 16 (by kernel_rfl) ?_
      refine ZeB [0,1,2,3,4,5,6,7,8,9,10,11,12,13] (by kernel_rfl) (by kernel_rfl) ?_
      simp only[ZeD,List.getElem?_cons_succ,List.getElem?_cons_zero,List.cons_append,List.nil_append]
      repeat (go_big_quiet_step (fail))
      refine wpQuiet_nil ?_
      refine ZeX 14 (f:=43) (args:= #[.agg #[.int .i64 r0,.int .i64 r1,.int .i64 r2,.int .i64 r3,.slice base n cap],.slice ad s.length cp]) (v:= .bool false) (by kernel_rfl) rfl (by kernel_rfl) rfl (fun W=>by simp[go_sem,execOp,Act.eval]) (hft) ?_
      go_simp
      refine ZeB [15] (by kernel_rfl) (by kernel_rfl) ?_
      simp only[ZeD,List.getElem?_cons_succ,List.getElem?_cons_zero,List.cons_append,List.nil_append]
      repeat (go_big_quiet_step (fail))
      refine wpQuiet_nil ?_
      refine Zf6 (by kernel_rfl) (fun W hW=> ?_)
      have hE3:=hE.trans hW
      replace hB:=hB.ext hW
      clear hW hE hcu gu q0 q1 q2 q3 q4 g0 g1 g2 g3 g4 hr hft
      go_wp2
      exact⟨⟨i+1,B,ao,cb,by omega,by push_cast;rfl,rfl,hE3,hB,HN⟩,by simp[intOf];omega⟩
    ·have hlt4:¬(B.length:Int)<(s.length:Int):=by omega
     have HN:Hid ((C.take (i+1)).foldl p []=B):=by show _=_;rw[HN0.out,hps,decide_eq_false hlt3];rfl
     clear HN0 hps hrs hft
     go_wp2
     refine ZeG 16 (by kernel_rfl) ?_
     refine ZeB [0,1,2,3,4,5,6,7,8,9,10,11,12,13] (by kernel_rfl) (by kernel_rfl) ?_
     simp only[ZeD,List.getElem?_cons_succ,List.getElem?_cons_zero,List.cons_append,List.nil_append]
     repeat (go_big_quiet_step (fail))
     refine wpQuiet_nil ?_
     refine Zg4 14 (by kernel_rfl) rfl (by kernel_rfl) rfl ?_
     go_simp
     refine ZeB [15] (by kernel_rfl) (by kernel_rfl) ?_
     simp only[ZeD,List.getElem?_cons_succ,List.getElem?_cons_zero,List.cons_append,List.nil_append]
     repeat (go_big_quiet_step (fail))
     refine wpQuiet_nil ?_
     refine Zf6 (by kernel_rfl) (fun W hW=> ?_)
     have hE3:=hE.trans hW
     replace hB:=hB.ext hW
     clear hW hE hcu gu q0 q1 q2 q3 q4 g0 g1 g2 g3 g4 hr
     go_wp2
     exact⟨⟨i+1,B,ao,cb,by omega,by push_cast;rfl,rfl,hE3,hB,HN⟩,by simp[intOf];omega⟩
 ·have hne:(ZC r0 r1 r2 r3 S !=0)=true:=by simpa using h
  rw[if_neg h]
  generalize ZC r0 r1 r2 r3 S=f at hck hne⊢
  go_enter func69,ntmps69
  go_wp2_with (first
   |(go_at_call 63;refine(hck _ ((Ext.rfl' w).alloc _)).mono ?_;rintro e w2 ⟨rfl,hE2⟩))
  go_ret2
  exact⟨none,0,rfl,(fun i x hx=>by simp at hx),((Ext.rfl' w).alloc _).trans hE2⟩
theorem Zi2(r0 r1 r2 r3:Int)(base:Option Addr)(n cap:Nat)(S:List Rs)(w:World)(hlen:S.length=n)(hS:RawS w base S):
 Calls prog 67 #[.agg #[.int .i64 r0,.int .i64 r1,.int .i64 r2,.int .i64 r3,.slice base n cap]] w fun e w'=>∃bl cl,e= .returned (.tuple #[.slice bl (if ZC r0 r1 r2 r3 S=0 then Zes r0 r1 r2 r3 S else[]).length cl,.int .i64 (ZC r0 r1 r2 r3 S)])∧RawI w' bl (if ZC r0 r1 r2 r3 S=0 then Zes r0 r1 r2 r3 S else[])∧Ext w w':=by
 have hck:=fun W (hW:Ext w W)=>ZfQ r0 r1 r2 r3 base n cap S W hlen (hS.ext hW)
 by_cases h:ZC r0 r1 r2 r3 S=0
 ·rw[h] at hck
  have hc:=Zav h
  have hn8:n≤8:=by rw[←hlen];exact hc.len
  have hul:(upL n).length=n:=by simp[upL]
  have hup:=fun W (_:Ext w W)=>Zg9 n W (by omega)
  rw[if_pos h,h]
  obtain⟨C,hCe⟩:∃C,C=chooseR (upL n):=⟨_,rfl⟩
  have hch:=fun W ao cp (hW:Ext w W)(hcp:n≤cp)(hI:RawI W ao (upL n))=>Zhs n (upL n) ao cp W hul (by omega) hcp hI
  rw[←hCe] at hch
  have hC:Hid ((∀s∈C,s.length≤9∧∀q∈s,0≤q∧q<(n:Int))∧C≠[]∧C.length≤512):=by
   refine⟨fun s hs=> ?_,by rw[hCe,chooseR_head];simp,?_⟩
   ·rw[hCe] at hs
    exact⟨by have:=chooseR_each _ s hs;omega,fun q hq=>mem_upLs.1 ((chooseR_mem _ s hs).subset hq)⟩
   ·rw[hCe,chooseR_len,hul]
    exact Nat.pow_le_pow_right (n:=2) (by omega) (show n≤9 by omega)
  have hSA:Hid (RawS w base S):=hS
  replace hul:Hid ((upL n).length=n):=hul
  obtain⟨p,hp⟩:∃p:List Int×Bool→List Int→List Int×Bool,p=fun b l=>if(!b.2||decide (l.length<b.1.length))&& !Z20 r0 r1 r2 r3 S l then(l,true) else b:=⟨_,rfl⟩
  have hR:Hid (Zes r0 r1 r2 r3 S=(C.foldl p ([],false)).1):=by
   show _=_
   rw[Zes,hlen,←hCe,hp,ZaG]
   congr 2
   funext b l
   simp
  replace hp:Hid (p=fun b l=>if(!b.2||decide (l.length<b.1.length))&& !Z20 r0 r1 r2 r3 S l then(l,true) else b):=hp
  generalize Zes r0 r1 r2 r3 S=TR at hR⊢
  clear hCe h hc hS
  go_enter func67,ntmps67
  go_wp2_with (first
   |(go_at_call 63;refine(hck _ ((Ext.rfl' w).alloc _)).mono ?_;rintro e w2 ⟨rfl,hE2⟩
     have hr0:=hE2.get (b:=w.heap.size) (o:= .cells #[.int .i64 r0,.int .i64 r1,.int .i64 r2,.int .i64 r3,.slice base n cap] 70) ((Z3 _ _ _).trans (if_pos rfl))
     have hE0:=((Ext.rfl' w).alloc _).trans hE2
     have q4:=Z0 hr0 4
     simp only[List.getElem?_toArray,List.getElem?_cons_zero,List.getElem?_cons_succ] at q4)
   |(go_at_call 44;(with_reducible refine(hup _ hE0).mono ?_);rintro e w3 ⟨x,rfl,hx9,hF⟩
     obtain⟨bl,cl,rfl,hI,hcl⟩:=hx9.rawI
     rw[show(upL n).length=n from hul.out] at hcl
     rw[show(upL n).length=n from hul.out]
     replace hE0:=hE0.trans hF;replace hr0:=hF.get hr0)
   |(go_at_call 127;(with_reducible refine(hch _ bl cl hE0 hcl hI).mono ?_);rintro e w1 ⟨v,rfl,hSc,hF2⟩
     obtain⟨g,rc,rfl,hlo,hhi,hrc⟩:=hSc.own hC.out.2.1
     have hE1:=hE0.trans hF2;have hr1:=hF2.get hr0))
  clear hE0 hF2 hr0 hch hlo hhi hck hup q4 hI hcl hx9 hF
  have HP0:Hid ((C.take 0).foldl p ([],false)=([],false)):=rfl
  go_loopw [5,6,8] (fun v5 v6 v8 wr=>∃(i:Nat)(B:List Int)(fd:Bool)(ao:Option Addr)(cb:Nat),i≤C.length∧v8= .int .i64 i∧v5= .slice ao B.length cb∧v6= .bool fd∧Ext w1 wr∧RawI wr ao B∧Hid ((C.take i).foldl p ([],false)=(B,fd))) (fun _ _ v8 _=>C.length - (intOf v8).toNat)
  case atStart=>exact⟨0,[],false,none,0,Nat.zero_le _,rfl,rfl,rfl,Ext.rfl' w1,(fun i x hx=>by simp at hx),HP0⟩
  case round=>
   clear HP0
   obtain⟨i,B,fd,ao,cb,hi,rfl,rfl,rfl,hE,hB,HP⟩:=hrel
   by_cases hik:i=C.length
   ·have HQ:Hid (TR=B):=by show _=_;rw[hR.out,←List.take_length (l:=C),←hik,HP.out]
    subst hik
    clear HP
    go_wp2
    go_ret2
    rw[HQ.out]
    exact⟨ao,cb,rfl,hB,hE1.trans hE⟩
   ·have hlt:i<C.length:=by omega
    have hlt2:(i:Int)<(C.length:Int):=by omega
    have hib:(i:Int)<1000:=by have:=hC.out.2.2;omega
    obtain⟨s,hs⟩:∃s,C[i]? =some s:=⟨_,List.getElem?_eq_getElem hlt⟩
    obtain⟨ad,cp,hcu,hou,hcp⟩:=(hSc.ext hE).cellsO hs
    have hrs:=OwnI.rawP hou
    obtain⟨hs9,hsin⟩:=hC.out.1 s (List.mem_of_getElem? hs)
    have hr:=hE.get hr1
    have hft:=fun W (hW:Ext wr W)=>Zg2 r0 r1 r2 r3 base n cap S ad s.length cp s W hlen (by omega) rfl (by omega) hsin (hSA.out.ext ((hE1.trans hE).trans hW)) (hrs.ext hW)
    obtain⟨q0,q1,q2,q3,q4⟩:=Zh3 hr
    have g0:=Zet q0;have g1:=Zet q1;have g2:=Zet q2;have g3:=Zet q3;have g4:=Zet q4
    have gu:=Zet hcu
    clear hou
    have HN0:Hid ((C.take (i+1)).foldl p ([],false)=p (B,fd) s):=by show _=_;rw[Z0G hs,List.foldl_append,HP.out];rfl
    have hps:p (B,fd) s=if(!fd||decide (s.length<B.length))&& !Z20 r0 r1 r2 r3 S s then(s,true) else(B,fd):=by rw[hp.out]
    clear HP hs
    cases fd with
    |false=>
     cases hf:Z20 r0 r1 r2 r3 S s with
     |false=>
      have HN:Hid ((C.take (i+1)).foldl p ([],false)=(s,true)):=by show _=_;rw[HN0.out,hps,hf];rfl
      simp only[hf] at hft
      clear HN0 hps hf
      go_wp2
      refine ZeG 21 (by kernel_rfl) ?_
      refine ZeB [0,1,2,3,4,5,6,7,8,9,10,11,12,13,14,15,16,17] (by kernel_rfl) (by kernel_rfl) ?_
      simp only[ZeD,List.getElem?_cons_succ,List.getElem?_cons_zero,List.cons_append,List.nil_append]
      repeat (go_big_quiet_step (fail))
      refine wpQuiet_nil ?_
      refine ZeX 18 (f:=43) (args:= #[.agg #[.int .i64 r0,.int .i64 r1,.int .i64 r2,.int .i64 r3,.slice base n cap],.slice ad s.length cp]) (v:= .bool false) (by kernel_rfl) rfl (by kernel_rfl) rfl (fun W=>by simp[go_sem,execOp,Act.eval]) (hft) ?_
      go_simp
      refine ZeB [19,20] (by kernel_rfl) (by kernel_rfl) ?_
      simp only[ZeD,List.getElem?_cons_succ,List.getElem?_cons_zero,List.cons_append,List.nil_append]
      repeat (go_big_quiet_step (fail))
      refine wpQuiet_nil ?_
      refine Zf6 (by kernel_rfl) (fun W hW=> ?_)
      have hE3:=hE.trans hW
      have hcu3:=hW.cellS hcu;have hrs3:=hrs.ext hW
      clear hW hE hcu gu q0 q1 q2 q3 q4 g0 g1 g2 g3 g4 hr hft hB hrs
      go_wp2
      exact⟨⟨i+1,s,true,ad,cp,by omega,by push_cast;rfl,rfl,rfl,hE3,hrs3,HN⟩,by simp[intOf];omega⟩
     |true=>
      have HN:Hid ((C.take (i+1)).foldl p ([],false)=(B,false)):=by show _=_;rw[HN0.out,hps,hf];rfl
      simp only[hf] at hft
      clear HN0 hps hf hrs
      go_wp2
      refine ZeG 21 (by kernel_rfl) ?_
      refine ZeB [0,1,2,3,4,5,6,7,8,9,10,11,12,13,14,15,16,17] (by kernel_rfl) (by kernel_rfl) ?_
      simp only[ZeD,List.getElem?_cons_succ,List.getElem?_cons_zero,List.cons_append,List.nil_append]
      repeat (go_big_quiet_step (fail))
      refine wpQuiet_nil ?_
      refine ZeX 18 (f:=43) (args:= #[.agg #[.int .i64 r0,.int .i64 r1,.int .i64 r2,.int .i64 r3,.slice base n cap],.slice ad s.length cp]) (v:= .bool true) (by kernel_rfl) rfl (by kernel_rfl) rfl (fun W=>by simp[go_sem,execOp,Act.eval]) (hft) ?_
      go_simp
      refine ZeB [19,20] (by kernel_rfl) (by kernel_rfl) ?_
      simp only[ZeD,List.getElem?_cons_succ,List.getElem?_cons_zero,List.cons_append,List.nil_append]
      repeat (go_big_quiet_step (fail))
      refine wpQuiet_nil ?_
      refine Zf6 (by kernel_rfl) (fun W hW=> ?_)
      have hE3:=hE.trans hW
      replace hB:=hB.ext hW
      clear hW hE hcu gu q0 q1 q2 q3 q4 g0 g1 g2 g3 g4 hr hft
      go_wp2
      exact⟨⟨i+1,B,false,ao,cb,by omega,by push_cast;rfl,rfl,rfl,hE3,hB,HN⟩,by simp[intOf];omega⟩
    |true=>
     by_cases hlt3:s.length<B.length
     ·have hlt4:(s.length:Int)<(B.length:Int):=by omega
      cases hf:Z20 r0 r1 r2 r3 S s with
      |false=>
       have HN:Hid ((C.take (i+1)).foldl p ([],false)=(s,true)):=by show _=_;rw[HN0.out,hps,hf,decide_eq_true hlt3];rfl
       simp only[hf] at hft
       clear HN0 hps hf
       go_wp2
       refine ZeG 21 (by kernel_rfl) ?_
       refine ZeB [0,1,2,3,4,5,6,7,8,9,10,11,12,13,14,15,16,17] (by kernel_rfl) (by kernel_rfl) ?_
       simp only[ZeD,List.getElem?_cons_succ,List.getElem?_cons_zero,List.cons_append,List.nil_append]
       repeat (go_big_quiet_step (fail))
       refine wpQuiet_nil ?_
       refine ZeX 18 (f:=43) (args:= #[.agg #[.int .i64 r0,.int .i64 r1,.int .i64 r2,.int .i64 r3,.slice base n cap],.slice ad s.length cp]) (v:= .bool false) (by kernel_rfl) rfl (by kernel_rfl) rfl (fun W=>by simp[go_sem,execOp,Act.eval]) (hft) ?_
       go_simp
       refine ZeB [19,20] (by kernel_rfl) (by kernel_rfl) ?_
       simp only[ZeD,List.getElem?_cons_succ,List.getElem?_cons_zero,List.cons_append,List.nil_append]
       repeat (go_big_quiet_step (fail))
       refine wpQuiet_nil ?_
       refine Zf6 (by kernel_rfl) (fun W hW=> ?_)
       have hE3:=hE.trans hW
       have hcu3:=hW.cellS hcu;have hrs3:=hrs.ext hW
       clear hW hE hcu gu q0 q1 q2 q3 q4 g0 g1 g2 g3 g4 hr hft hB hrs
       go_wp2
       exact⟨⟨i+1,s,true,ad,cp,by omega,by push_cast;rfl,rfl,rfl,hE3,hrs3,HN⟩,by simp[intOf];omega⟩
      |true=>
       have HN:Hid ((C.take (i+1)).foldl p ([],false)=(B,true)):=by show _=_;rw[HN0.out,hps,hf,decide_eq_true hlt3];rfl
       simp only[hf] at hft
       clear HN0 hps hf hrs
       go_wp2
       refine ZeG 21 (by kernel_rfl) ?_
       refine ZeB [0,1,2,3,4,5,6,7,8,9,10,11,12,13,14,15,16,17] (by kernel_rfl) (by kernel_rfl) ?_
       simp only[ZeD,List.getElem?_cons_succ,List.getElem?_cons_zero,List.cons_append,List.nil_append]
       repeat (go_big_quiet_step (fail))
       refine wpQuiet_nil ?_
       refine ZeX 18 (f:=43) (args:= #[.agg #[.int .i64 r0,.int .i64 r1,.int .i64 r2,.int .i64 r3,.slice base n cap],.slice ad s.length cp]) (v:= .bool true) (by kernel_rfl) rfl (by kernel_rfl) rfl (fun W=>by simp[go_sem,execOp,Act.eval]) (hft) ?_
       go_simp
       refine ZeB [19,20] (by kernel_rfl) (by kernel_rfl) ?_
       simp only[ZeD,List.getElem?_cons_succ,List.getElem?_cons_zero,List.cons_append,List.nil_append]
       repeat (go_big_quiet_step (fail))
       refine wpQuiet_nil ?_
       refine Zf6 (by kernel_rfl) (fun W hW=> ?_)
       have hE3:=hE.trans hW
       replace hB:=hB.ext hW
       clear hW hE hcu gu q0 q1 q2 q3 q4 g0 g1 g2 g3 g4 hr hft
       go_wp2
       exact⟨⟨i+1,B,true,ao,cb,by omega,by push_cast;rfl,rfl,rfl,hE3,hB,HN⟩,by simp[intOf];omega⟩
     ·have hlt4:¬(s.length:Int)<(B.length:Int):=by omega
      have HN:Hid ((C.take (i+1)).foldl p ([],false)=(B,true)):=by show _=_;rw[HN0.out,hps,decide_eq_false hlt3];rfl
      clear HN0 hps hrs hft
      go_wp2
      refine ZeG 21 (by kernel_rfl) ?_
      refine ZeB [0,1,2,3,4,5,6,7,8,9,10,11,12,13,14,15,16,17] (by kernel_rfl) (by kernel_rfl) ?_
      simp only[ZeD,List.getElem?_cons_succ,List.getElem?_cons_zero,List.cons_append,List.nil_append]
      repeat (go_big_quiet_step (fail))
      refine wpQuiet_nil ?_
      refine Zg4 18 (by kernel_rfl) rfl (by kernel_rfl) rfl ?_
      go_simp
      refine ZeB [19,20] (by kernel_rfl) (by kernel_rfl) ?_
      simp only[ZeD,List.getElem?_cons_succ,List.getElem?_cons_zero,List.cons_append,List.nil_append]
      repeat (go_big_quiet_step (fail))
      refine wpQuiet_nil ?_
      refine Zf6 (by kernel_rfl) (fun W hW=> ?_)
      have hE3:=hE.trans hW
      replace hB:=hB.ext hW
      clear hW hE hcu gu q0 q1 q2 q3 q4 g0 g1 g2 g3 g4 hr
      go_wp2
      exact⟨⟨i+1,B,true,ao,cb,by omega,by push_cast;rfl,rfl,rfl,hE3,hB,HN⟩,by simp[intOf];omega⟩
 ·have hne:(ZC r0 r1 r2 r3 S !=0)=true:=by simpa using h
  rw[if_neg h]
  generalize ZC r0 r1 r2 r3 S=f at hck hne⊢
  go_enter func67,ntmps67
  go_wp2_with (first
   |(go_at_call 63;refine(hck _ ((Ext.rfl' w).alloc _)).mono ?_;rintro e w2 ⟨rfl,hE2⟩))
  go_ret2
  exact⟨none,0,rfl,(fun i x hx=>by simp at hx),((Ext.rfl' w).alloc _).trans hE2⟩
end Go.Proofs.Tryq
