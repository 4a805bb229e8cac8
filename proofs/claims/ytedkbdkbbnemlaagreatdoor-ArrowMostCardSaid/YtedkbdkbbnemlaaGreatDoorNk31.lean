/- nocklaw01.ArrowMost: for every stock, any other sets, any truth the call returns true, on every schedule and without a data race; its arguments read afterwards as they read before; nothing that was in memory is changed; at the return no other goroutine does more than leave. The card ties the four listed package variables to the program's text. Conditions: none beyond the card's own (the listed variables hold what the program's text lays). The texts of this claim were shortened by program (no remarks, short names) to fit the bounds on a claim's size; their long form lies in the repository's folder wip. -/
import Derived.Test.YtedkbdkbbnemlaaGreatDoorNk30
import Derived.Carry
import Derived.JoinedOf
import Derived.KernelRfl
import Derived.Test.YtedkbdkbbnemlaaGreatDoorRows
set_option linter.all false
namespace Go.Proofs.Tryq
set_option maxRecDepth 100000
set_option maxHeartbeats 8000000
open Go Go.Nk Go.RowKit
set_option linter.all false
theorem ZmD(a b c M:Int)(base:Option Addr)(n cap:Nat)(ob:Option Addr)(on oc:Nat)(pb:Option Addr)(pn pc:Nat)(w:World)(fb:Bool)(hn:fb=true->20<on)
 (Nb:∀W,Ext w W->Calls prog 30 #[.agg #[.int .i64 a,.int .i64 b,.int .i64 c,.int .i64 M,.slice base n cap]] W fun e w'=>e= .returned (.bool fb)/\Ext W w')
 (Bc:∀W,Ext w W->Calls prog 22 #[] W fun e w'=>e= .returned (.bool true)/\Ext W w'):
 Calls prog 6 #[.agg #[.int .i64 a,.int .i64 b,.int .i64 c,.int .i64 M,.slice base n cap],.slice ob on oc,.slice pb pn pc] w fun e w'=>e= .returned (.bool true):=by
 have Gc:(w.alloc (.cells #[.int .i64 a,.int .i64 b,.int .i64 c,.int .i64 M,.slice base n cap] 26)).heap[w.heap.size]? =some (.cells #[.int .i64 a,.int .i64 b,.int .i64 c,.int .i64 M,.slice base n cap] 26):=(Z3 _ _ _).trans (if_pos rfl);have Bv:=(Ext.rfl' w).alloc (.cells #[.int .i64 a,.int .i64 b,.int .i64 c,.int .i64 M,.slice base n cap] 26);cases fb
 ·clear hn;go_enter func6,ntmps6
  go_wp2_with (first
   |(go_at_call 30;refine(Nb _ Bv).mono ?_;rintro e w2 ⟨rfl,hF⟩
     have hE:=Bv.trans hF;have hr:=hF.get Gc;clear hF;obtain⟨q0,q1,q2,q3,q4⟩:=Zgj hr)
   |(go_at_call 22;refine(Bc _ hE).mono ?_;rintro e w9 ⟨rfl,hF9⟩))
  go_ret;exact rfl
 ·have Qk:=hn rfl;clear hn;go_enter func6,ntmps6
  go_wp2_with (first
   |(go_at_call 30;refine(Nb _ Bv).mono ?_;rintro e w2 ⟨rfl,hF⟩
     have hE:=Bv.trans hF;have hr:=hF.get Gc;clear hF;obtain⟨q0,q1,q2,q3,q4⟩:=Zgj hr)
   |(go_at_call 22;refine(Bc _ hE).mono ?_;rintro e w9 ⟨rfl,hF9⟩))
  go_ret;exact rfl
theorem Zmx(a b c:Int)(M:Nat)(base:Option Addr)(n cap:Nat)(ob:Option Addr)(on oc:Nat)(pb:Option Addr)(pn pc:Nat)(w:World)(M7:n<=9)(Vk:on<=20)(O:List Int)(hOl:Hid (O.length=on))(hO:Hid (RawU w ob O))(hOu:Hid (∀x∈O,0<=x/\x<65536))(L:List Sf)(hL:Hid (L.length=n))(hs:Hid (Zp a b c M L=0))(M8:2<=M)(K5:M<=4)(F:List (List Int))(q:Nat)(Ww:Hid (F.length=q))(Kw:q<=9)(hFe:Hid (F=Z66 a b c M L))(T:List Int)(tn:Nat)(hT:Hid (T.length=tn))(Vp:tn<=9)(Cj:Hid (∀x∈T,∀l∈F,x∉l))(Nc:Hid (∀l∈F,l.length=M))(qm:Int)(e1:wrap64 ((q:Int)*(M:Int))=qm)(e2:wrap64 ((n:Int) - qm)=(tn:Int))
 (Nb:∀W,Ext w W->Calls prog 30 #[.agg #[.int .i64 a,.int .i64 b,.int .i64 c,.int .i64 M,.slice base n cap]] W fun e w'=>e= .returned (.bool true)/\Ext W w')
 (h37:∀W,Ext w W->Calls prog 37 #[.agg #[.int .i64 a,.int .i64 b,.int .i64 c,.int .i64 M,.slice base n cap]] W fun e w'=>∃ao cp bl cl,e= .returned (.tuple #[.slice ao q cp,.slice bl tn cl,.int .i64 0])/\RawL w' ao F/\RawI w' bl T/\Ext W w')
 (h38:∀ao cp W,Ext w W->RawL W ao F->Calls prog 38 #[.agg #[.int .i64 a,.int .i64 b,.int .i64 c,.int .i64 M,.slice base n cap],.slice ao q cp,.slice pb pn pc] W fun e w'=>e= .returned (.bool true)/\Ext W w')
 (Wv:∀bl cl W,RawI W bl T->Calls prog 40 #[.slice bl tn cl,.int .i64 n] W fun e w'=>e= .returned (.int .i64 0)/\Ext W w')
 (h31:∀(y:Nat) W,y<65536->Ext w W->Calls prog 31 #[.agg #[.int .i64 a,.int .i64 b,.int .i64 c,.int .i64 M,.slice base n cap],.int .u16 y] W fun e w'=>∃v,e= .returned v/\OwnI W.heap.size w' v (ZeL y n)/\Ext W w')
 (h23:∀(y:Nat) bl cl W,y<65536->Ext w W->(ZeL y n).length<=cl->RawI W bl (ZeL y n)->Calls prog 23 #[.agg #[.int .i64 a,.int .i64 b,.int .i64 c,.int .i64 M,.slice base n cap],.slice bl (ZeL y n).length cl] W fun e w'=>e= .returned (.tuple #[.int .i64 (Zr (apA a b c L (ZeL y n))),.int .i64 0])/\Ext W w')
 (Bc:∀W,Ext w W->Calls prog 22 #[] W fun e w'=>e= .returned (.bool true)/\Ext W w'):
 Calls prog 6 #[.agg #[.int .i64 a,.int .i64 b,.int .i64 c,.int .i64 M,.slice base n cap],.slice ob on oc,.slice pb pn pc] w fun e w'=>e= .returned (.bool true):=by
 have Gc:(w.alloc (.cells #[.int .i64 a,.int .i64 b,.int .i64 c,.int .i64 M,.slice base n cap] 26)).heap[w.heap.size]? =some (.cells #[.int .i64 a,.int .i64 b,.int .i64 c,.int .i64 M,.slice base n cap] 26):=(Z3 _ _ _).trans (if_pos rfl);have Bv:=(Ext.rfl' w).alloc (.cells #[.int .i64 a,.int .i64 b,.int .i64 c,.int .i64 M,.slice base n cap] 26);go_enter func6,ntmps6
 go_wp2_with (first
  |(go_at_call 30;refine(Nb _ Bv).mono ?_;rintro e w2 ⟨rfl,hF⟩
    have hE:=Bv.trans hF;have hr:=hF.get Gc;clear hF;obtain⟨q0,q1,q2,q3,q4⟩:=Zgj hr)
  |(go_at_call 37;refine(h37 _ hE).mono ?_;rintro e w3 ⟨ao,cp,bT,cT,rfl,Nd,Uv,hF⟩
    replace hE:=hE.trans hF;replace hr:=hF.get hr;clear hF q0 q1 q2 q3 q4;obtain⟨q0,q1,q2,q3,q4⟩:=Zgj hr)
  |(go_at_call 38;refine(h38 _ _ _ hE Nd).mono ?_;rintro e w4 ⟨rfl,hF⟩
    replace hE:=hE.trans hF;replace hr:=hF.get hr;replace Nd:=Nd.ext hF;replace Uv:=Uv.ext hF;clear hF q0 q1 q2 q3 q4;obtain⟨q0,q1,q2,q3,q4⟩:=Zgj hr))
 clear Bv Gc e1 e2;go_loopw [10] (fun v10 wr=>∃i:Nat,i<=tn/\v10= .int .i64 i/\Ext w4 wr) (fun v10 _=>tn - (intOf v10).toNat)
 case atStart=>exact⟨0,Nat.zero_le _,rfl,Ext.rfl' _⟩
 case round=>
  obtain⟨i,hi,rfl,hX⟩:=hrel;by_cases Ao:i=tn
  ·subst Ao;clear q0 q1 q2 q3 q4;have Du:=hX.get hr;obtain⟨q0,q1,q2,q3,q4⟩:=Zgj Du
   go_wp2_with (first
    |(go_at_call 40;refine(Wv _ _ _ (Uv.ext hX)).mono ?_;rintro e w5 ⟨rfl,hF⟩
      replace hX:=hX.trans hF;clear hF))
   have B8:=hE.trans hX;have Lb:=hX.get hr;have Uw:=Nd.ext hX;clear hE hr Nd Uv hX q0 q1 q2 q3 q4;have hE:=B8;have hr:=Lb;have Nd:Hid (RawL w5 ao F):=Uw;clear B8 Lb Uw;obtain⟨W5,rfl⟩:∃z:World,z=w5:=⟨_,rfl⟩;obtain⟨N,hN⟩:∃N,N=W5.heap.size:=⟨_,rfl⟩;have Qw:Hid (N=W5.heap.size):=hN;clear hN;go_loopw [12,13,14] (fun v12 v13 v14 wr=>∃(i t:Nat)(Mo:List (List Int)),i<=on/\v14= .int .i64 i/\v13= .int .u16 t/\Ext W5 wr/\Shr N wr v12 Mo/\Mo.length<=i/\Hid (Gath a b c M L Mo t)) (fun _ _ v14 _=>on - (intOf v14).toNat)
   case atStart=>exact⟨0,0,[],Nat.zero_le _,rfl,rfl,Ext.rfl' _,⟨fun _=>rfl,[],World.ownsRow_nil _ _ _ _,trivial⟩,Nat.le_refl _,⟨fun l hl=>by simp at hl,List.Pairwise.nil,List.Pairwise.nil,fun l hl=>by simp at hl,by omega⟩⟩
   case round=>
    obtain⟨i,t,Mo,hi,rfl,rfl,hX,hS,hmoi,hG⟩:=hrel;obtain⟨mo,Jn⟩:∃z,Mo.length=z:=⟨_,rfl⟩;rw[Jn] at hmoi;have Bn:Hid (Mo.length=mo):=Jn;clear Jn;by_cases hion:i=on
    ·subst hion;have B9:=hG.out.le hs.out;rw[<-hFe.out,Ww.out,Bn.out] at B9;by_cases hq:mo=q
     ·subst hq;have M5:Hid (LeL (F.drop 0) (Mo.drop 0)):=by
       have:=hG.out.least hs.out (by rw[Bn.out,<-hFe.out,Ww.out]);rw[<-hFe.out] at this;exact this
      obtain⟨ro,rc,rfl,Ux⟩:=hS.rawL (fun l hl=>by have:=(hG.out.ok l hl).len;omega);rw[Bn.out];have hMl:Hid (∀k∈Mo,k.length=M):=fun k hk=>(hG.out.ok k hk).len
      have hRF2:=Nd.out.ext hX;clear hS hG B9;go_wp2;obtain⟨w6,rfl⟩:∃z:World,z=wr:=⟨_,rfl⟩;go_loopw [18] (fun v18 wr=>∃i:Nat,i<=mo/\v18= .int .i64 i/\Ext w6 wr/\Hid (LeL (F.drop i) (Mo.drop i))) (fun v18 _=>mo - (intOf v18).toNat)
      case atStart=>exact⟨0,Nat.zero_le _,rfl,Ext.rfl' _,M5⟩
      case round=>
       clear M5;obtain⟨i,hi,rfl,Ak,hP⟩:=hrel;by_cases hiq:i=mo
       ·subst hiq;clear hP;go_wp2_with (go_at_call 22;refine(Bc _ (hE.trans (hX.trans Ak))).mono ?_;rintro e w9 ⟨rfl,hF9⟩);go_ret;exact rfl
       ·have hiq2:(i:Int)<(mo:Int):=(by omega);obtain⟨l,hl⟩:∃l,F[i]? =some l:=⟨_,List.getElem?_eq_getElem (by have:=Ww.out;omega)⟩;obtain⟨k,hk⟩:∃k,Mo[i]? =some k:=⟨_,List.getElem?_eq_getElem (by have:=Bn.out;omega)⟩;have H9:=Nc.out l (List.mem_of_getElem? hl);have hkM:=hMl.out k (List.mem_of_getElem? hk);have Oe:Hid ((l=k/\LeL (F.drop (i+1)) (Mo.drop (i+1)))\/lessL (l.drop 0) (k.drop 0)=true):=by
         have:=hP.out;rw[Z0b hl,Z0b hk] at this;exact this
        obtain⟨bF,oF,adl,cll,rfl,_,Hy,_,Wx⟩:=hRF2 i l hl;obtain⟨bM,oM,adk,clk,rfl,_,Hz,_,Ff⟩:=Ux i k hk;rw[H9] at Hy;rw[hkM] at Hz;have Df:=Hy;have Bf:=Hz;have Uy:Hid (l.length=M):=H9;have Uz:Hid (k.length=M):=hkM;have hIl2:Hid (RawI w6 adl l):=Wx;have hIk2:Hid (RawI w6 adk k):=Ff;clear hl hk H9 hkM hP Wx Ff Hy Hz;go_wp2;go_loopw [19] (fun v19 wr=>∃j:Nat,j<=M/\v19= .int .i64 j/\Ext w6 wr/\Hid ((l=k/\LeL (F.drop (i+1)) (Mo.drop (i+1)))\/lessL (l.drop j) (k.drop j)=true)) (fun v19 _=>M - (intOf v19).toNat)
        case atStart=>exact⟨0,Nat.zero_le _,rfl,Ak,Oe⟩
        case round=>
         clear Oe Ak;obtain⟨j,hj,rfl,Ak,hP⟩:=hrel;have d2:=Ak.cellS Bf;by_cases Ur:j=M
         ·subst Ur;have HN:Hid (LeL (F.drop (i+1)) (Mo.drop (i+1))):=by
           rcases hP.out with h|h
           ·exact h.2
           ·rw[List.drop_of_length_le (by have:=Uy.out;omega),List.drop_of_length_le (by have:=Uz.out;omega)] at h;cases h
          clear hP;go_wp2;exact⟨⟨i+1,by omega,by push_cast;rfl,Ak,HN⟩,by simp[intOf];omega⟩
         ·have hjM2:(j:Int)<(M:Int):=(by omega);obtain⟨x,B5⟩:∃x,l[j]? =some x:=⟨_,List.getElem?_eq_getElem (by have:=Uy.out;omega)⟩;obtain⟨y,B1⟩:∃y,k[j]? =some y:=⟨_,List.getElem?_eq_getElem (by have:=Uz.out;omega)⟩;obtain⟨bl1,ol1,rfl,_,Gd⟩:=hIl2.out j x B5;obtain⟨bk1,ok1,rfl,_,Ln⟩:=hIk2.out j y B1;have hx:Hid (l[j]? =some x):=B5;have hy:Hid (k[j]? =some y):=B1;have Jo:Hid (∀W,Ext w6 W->W.cell? ⟨bF,oF+i,none⟩=some (.slice (some ⟨bl1,ol1,none⟩) M cll)/\W.cell? ⟨bM,oM+i,none⟩=some (.slice (some ⟨bk1,ok1,none⟩) M clk)/\W.cell? ⟨bl1,ol1+j,none⟩=some (.int .i64 x)/\W.cell? ⟨bk1,ok1+j,none⟩=some (.int .i64 y)):=fun W hW=>⟨hW.cellS Df,hW.cellS Bf,hW.cellS Gd,hW.cellS Ln⟩
          clear B5 B1;obtain⟨c1,c2,c3,c4⟩:=Jo.out _ Ak;have g1:=Zet c1;have g2:=Zet c2;have g3:=Zet c3;have g4:=Zet c4;go_wp2;refine ZeG 15 (by kernel_rfl) ?_;refine ZeB [0,1,2,3,4,5,6,7,8,9,10,11,12,13,14] (by kernel_rfl) (by kernel_rfl) ?_;simp only[ZeD,List.getElem?_cons_succ,List.getElem?_cons_zero,List.cons_append,List.nil_append]
          repeat (go_big_quiet_step (fail))
          refine wpQuiet_nil ?_;refine Zf6 (by kernel_rfl) (fun W hW=> ?_);have As:=Ak.trans hW;clear g1 g2 g3 g4 c1 c2 c3 c4 Ak hW;by_cases Bi:y=x
          ·subst Bi;have HN:Hid ((l=k/\LeL (F.drop (i+1)) (Mo.drop (i+1)))\/lessL (l.drop (j+1)) (k.drop (j+1))=true):=by
            rcases hP.out with h|h
            ·exact .inl h
            ·rw[ZgQ hx.out hy.out,if_pos rfl] at h;exact .inr h
           go_wp2;exact⟨⟨j+1,by omega,by push_cast;rfl,As,HN⟩,by simp[intOf];omega⟩
          ·have A3:x<y:=by
            rcases hP.out with h|h
            ·have h1:=hx.out;rw[h.1,hy.out] at h1;exact absurd (Option.some.inj h1) Bi
            ·rw[ZgQ hx.out hy.out,if_neg (fun e=>Bi e.symm)] at h;exact of_decide_eq_true h
           have hxy2:(y !=x)=true:=(by simpa using Bi);obtain⟨c1,c2,c3,c4⟩:=Jo.out W As;have g1:=Zet c1;have g2:=Zet c2;have g3:=Zet c3;have g4:=Zet c4;go_wp2;refine ZeG 19 (by kernel_rfl) ?_;refine ZeB [0,1,2,3,4,5,6,7,8,9,10,11,12,13,14,15] (by kernel_rfl) (by kernel_rfl) ?_;simp only[ZeD,List.getElem?_cons_succ,List.getElem?_cons_zero,List.cons_append,List.nil_append]
           repeat (go_big_quiet_step (fail))
           refine wpQuiet_nil ?_;refine ZeX 16 (f:=22) (args:= #[]) (v:= .bool true) (by kernel_rfl) rfl (by kernel_rfl) rfl (fun W=>by simp[go_sem,execOp,Act.eval]) (fun W2 Wy=>Bc W2 (hE.trans (hX.trans (As.trans Wy)))) ?_;go_simp;refine ZeB [17,18] (by kernel_rfl) (by kernel_rfl) ?_;simp only[ZeD,List.getElem?_cons_succ,List.getElem?_cons_zero,List.cons_append,List.nil_append]
           repeat (go_big_quiet_step (fail))
           refine wpQuiet_nil ?_;refine Zf6 (by kernel_rfl) (fun W hW=> ?_);go_wp2;go_ret;exact rfl
     ·have A3:mo<q:=(by omega);have A8:((mo:Int) !=(q:Int))=true:=(by simpa using(by omega:¬(mo:Int)=(q:Int)));have D3:=hE.trans hX;obtain⟨ro,rc,rfl,_⟩:=hS.rawL (fun l hl=>by have:=(hG.out.ok l hl).len;omega);rw[Bn.out];clear hS hG B9;go_wp2_with (go_at_call 22;refine(Bc _ D3).mono ?_;rintro e w9 ⟨rfl,hF9⟩);go_ret;exact rfl
    ·have A3:(i:Int)<(on:Int):=(by omega);obtain⟨v0,Kl⟩:∃v,O[i]? =some v:=⟨_,List.getElem?_eq_getElem (by have:=hOl.out;omega)⟩;have T4:=hOu.out v0 (List.mem_of_getElem? Kl);obtain⟨v,rfl⟩:=Int.eq_ofNat_of_zero_le T4.1;obtain⟨bu,ou,rfl,hbu,Jp⟩:=hO.out i _ Kl;have V3:v<65536:=(by omega);have V4:Hid (w.cell? ⟨bu,ou+i,none⟩=some (.int .u16 v)):=Jp;obtain⟨y,Ls,hyeq,V5⟩:=Zmz v t;obtain⟨t',V6,hteq,V7⟩:=or16 t v;have hyb:Hid (∀i,i<16->y.testBit i=(v.testBit i&& !t.testBit i)):=V5;have Um:Hid (∀i,i<16->t'.testBit i=(t.testBit i||v.testBit i)):=V7;have V8:¬N<=bu:=(by have:=hE.size;have:=Qw.out;omega);obtain⟨ly,On⟩:∃z,z=ZeL y n:=⟨_,rfl⟩;obtain⟨ll,Hq⟩:∃z,(ZeL y n).length=z:=⟨_,rfl⟩;have I0:Hid (ly=ZeL y n):=On;have Ph:Hid ((ZeL y n).length=ll):=Hq;have Jq:Hid (ly.length=ll):=(by show _=_;rw[On];exact Hq);have hll9:ll<=n:=(by rw[<-Hq];exact ZeN _ _);have C1:=hX.get hr;obtain⟨q0,q1,q2,q3,q4⟩:=Zgj C1;have Id:=(hE.trans hX).cellS Jp;have Lt:=fun W bl cl (hW:Ext w W)(hc:ll<=cl)(hI:RawI W bl ly)=>h23 y bl cl W Ls hW (by rw[Ph.out];exact hc) (by rw[<-I0.out];exact hI)
     rw[Hq] at Lt;obtain⟨mv,hmv⟩:∃z,z=Zr (apA a b c L (ZeL y n)):=⟨_,rfl⟩;rw[<-hmv] at Lt;have Va:Hid (mv=Zr (apA a b c L (ZeL y n))):=hmv;clear hmv;clear Kl T4 V5 V7 On Hq Jp C1;have gu:=Zet Id;have gr0:=Zet q0;have gr1:=Zet q1;have gr2:=Zet q2;have gr3:=Zet q3;have gr4:=Zet q4;go_wp2;refine ZeG 9 (by kernel_rfl) ?_;refine ZeB [0,1,2,3,4,5,6] (by kernel_rfl) (by kernel_rfl) ?_;simp only[ZeD,List.getElem?_cons_succ,List.getElem?_cons_zero,List.cons_append,List.nil_append]
     repeat (go_big_quiet_step (fail))
     refine wpQuiet_nil ?_;refine Zfa 7 rfl (by kernel_rfl) rfl (fun W hW=>Zfo (f:=31) (args:= #[.agg #[.int .i64 a,.int .i64 b,.int .i64 c,.int .i64 M,.slice base n cap],.int .u16 y]) (by simp[go_sem,execOp,Act.eval]) ?_);refine(h31 y W Ls (hE.trans (hX.trans hW))).mono ?_;rintro e W2 ⟨v,rfl,Pi,hF⟩;obtain⟨bl,cl,rfl,hI,Df⟩:=Pi.rawI;rw[<-I0.out] at hI Pi⊢;rw[<-I0.out,Jq.out] at Df;rw[Jq.out] at Pi⊢;replace Pi:=Pi.le (show wr.heap.size<=W.heap.size from hW.size);refine⟨.slice bl ll cl,rfl,hF,?_⟩;have Kz:=hW.trans hF;clear hF hW;obtain⟨Wc,rfl⟩:∃z,z=W:=⟨_,rfl⟩;go_simp;refine ZeB [8] (by kernel_rfl) (by kernel_rfl) ?_;simp only[ZeD,List.getElem?_cons_succ,List.getElem?_cons_zero,List.cons_append,List.nil_append]
     repeat (go_big_quiet_step (fail))
     refine wpQuiet_nil ?_;refine Zf6 (by kernel_rfl) (fun W hW=> ?_);have Ge:=hX.trans (Kz.trans hW);have Cc:=hS.ext (Kz.trans hW);have Ew:=(Pi.ext hW).le (show N<=wr.heap.size by rw[Qw.out];exact hX.size);replace hI:=hI.ext hW;have C1:=Ge.get hr;clear hX hS Kz hW Pi gu gr0 gr1 gr2 gr3 gr4 q0 q1 q2 q3 q4 Id;obtain⟨q0,q1,q2,q3,q4⟩:=Zgj C1
     go_wp2_with (
      go_at_call 23;refine(Lt _ bl cl (hE.trans Ge) Df hI).mono ?_;rintro e w6 ⟨rfl,hF⟩
      replace Ge:=Ge.trans hF;replace Cc:=Cc.ext hF;replace Ew:=Ew.ext hF;replace hI:=hI.ext hF;replace C1:=hF.get C1;clear hF q0 q1 q2 q3 q4;obtain⟨q0,q1,q2,q3,q4⟩:=Zgj C1)
     clear Lt;have g0:=Zet q0;have g1:=Zet q1;have g2:=Zet q2;have g3:=Zet q3;have g4:=Zet q4;by_cases h1:ll=M
     ·subst h1;by_cases h2:mv=1
      ·subst h2;obtain⟨x,hx⟩:∃x,ly[0]? =some x:=⟨_,List.getElem?_eq_getElem (by have:=Jq.out;omega)⟩;obtain⟨by1,oy1,rfl,_,Gd⟩:=hI 0 x hx;rw[Nat.add_zero] at Gd;by_cases h3:Mo=[]
       ·have Hx:=Cc.1 h3;have Fl:Hid (Gath a b c ll L (Mo++[ZeL y n]) t'):=by
         have He:=hG.out.step (by omega) (by have:=hL.out;omega) V3 Ls hyb.out V6 Um.out (by rw[hL.out,Ph.out]) (by rw[hL.out];exact Va.out.symm) (fun k p q hk=>by rw[h3] at hk;cases hk);rw[hL.out] at He;exact He
        have Jn:mo=0:=(by have:=Bn.out;rw[h3] at this;exact this.symm);subst Jn;subst Hx;clear Gd hx h3;go_wp2;refine ZeG 29 (by kernel_rfl) ?_;refine ZeB [0,1,2,3,4,5,6,7,8,9,10,11,12,13,14,15,16,17,18,19,20,21,22,23,24,25,26,27,28] (by kernel_rfl) (by kernel_rfl) ?_;simp only[ZeD,List.getElem?_cons_succ,List.getElem?_cons_zero,List.cons_append,List.nil_append]
        repeat (go_big_quiet_step (fail))
        refine wpQuiet_nil ?_;refine Zf6 (by kernel_rfl) (fun W hW=> ?_);have F1:=Ge.trans hW;have F4:=Cc.ext hW;have Vb:=Ew.ext hW;have Jr:=(hE.trans F1).cellS V4.out;clear Ge Cc Ew hI C1 hW q0 q1 q2 q3 q4 g0 g1 g2 g3 g4;go_wp2;refine Zhk (ExtX fun q=>N<=q) (by kernel_rfl) ?_;have hD:=(Ext.rfl' W).drew;have Lu:=F1.trans hD;have Js:=F4.ext hD;have Pj:=Vb.ext hD;have Gx:=hD.cellS Jr;have Pk:N<=W.drew.heap.size:=(by rw[Qw.out];exact Lu.size);generalize W.drew=Wd at Lu Js Pj Gx Pk⊢;clear F1 F4 Vb Jr hD;have gu:=GrE.cell (X:=fun q=>N<=q) V8 Gx;refine Zh8 (ExtX.pre _) [0,1,4,5,6,7,8,9] (by kernel_rfl) (by kernel_rfl) ?_;simp only[ZeD,List.getElem?_cons_succ,List.getElem?_cons_zero,List.cons_append,List.nil_append]
        repeat (go_big_quiet_step (fail))
        refine wpQuiet_nil ?_;refine Zh4 2 rfl (by kernel_rfl) rfl ?_;clear gu;refine Zf3 ⟨.slice (some ⟨Wd.heap.size,0,none⟩) 1 1,Wd.alloc (.cells #[(.slice (some ⟨by1,oy1,none⟩) ll cl)] 27),by simp[go_sem,execOp,Act.eval],Go.Nk.Ext.toX ((Ext.rfl' _).alloc _) _,?_⟩;have Pm:=(Zhw Wd (.slice (some ⟨by1,oy1,none⟩) ll cl) 27).1;have eA:=(Ext.rfl' Wd).alloc (.cells #[(.slice (some ⟨by1,oy1,none⟩) ll cl)] 27);generalize hWA:Wd.alloc _=WA at Pm eA⊢;clear hWA;go_simp;refine Zh4 3 rfl (by kernel_rfl) rfl ?_;refine ZhP _ _ rfl N (.slice none 0 0) Mo rfl (Js.ext eA) Wd.heap.size (.slice (some ⟨by1,oy1,none⟩) ll cl) ly rfl Pm (Pj.ext eA) (by have:=Bn.out;omega) (Nat.le_trans Pk eA.size) (fun g2 cp2 W8 Lv Pn Kq P3=>⟨Zhv Pn (fun k hk=>(Js.lt hk).1),?_⟩);have hX8:Ext W5 W8:=(Lu.trans eA).grown Pn (fun k hk=>by rw[<-Qw.out];exact(Js.lt hk).1);go_simp;refine Zh8 (ExtX.pre _) [10,11] (by kernel_rfl) (by kernel_rfl) ?_;simp only[ZeD,List.getElem?_cons_succ,List.getElem?_cons_zero,List.cons_append,List.nil_append]
        repeat (go_big_quiet_step (fail))
        refine wpQuiet_nil ?_;refine ZhF (by kernel_rfl) ?_;clear Lu Js Pj Gx Pk eA Pm Pn Kq;rw[Bn.out] at Lv;rw[I0.out] at Lv;rw[Bn.out];go_wp2;exact⟨⟨i+1,t',Mo++[ZeL y n],by omega,by push_cast;rfl,rfl,hX8,by first|exact Lv|simpa using Lv,by rw[List.length_append,List.length_singleton,Bn.out];omega,Fl⟩,by simp[intOf];omega⟩
       ·obtain⟨ro,rc,Hx,Ux⟩:=Cc.rawL (fun l hl=>by have:=(hG.out.ok l hl).len;omega);rw[Bn.out] at Hx;subst Hx;obtain⟨k,hk⟩:∃k,Mo.getLast? =some k:=by
         cases e:Mo.getLast? with
         |none=>rw[List.getLast?_eq_none_iff] at e;exact absurd e h3
         |some k=>exact⟨k,rfl⟩
        have Gj:k∈Mo:=List.mem_of_getLast? hk;have Dj:=(hG.out.ok k Gj).len;have Br:0<mo:=(by have:=Bn.out;have:=List.length_pos_iff.2 h3;omega);have En:Mo[mo - 1]? =some k:=(by rw[List.getLast?_eq_getElem?,Bn.out] at hk;exact hk);obtain⟨bM,oM,ad,ck,rfl,_,Bf,_,Ff⟩:=Ux _ k En;rw[Dj] at Bf;obtain⟨p,hp⟩:∃p,k[0]? =some p:=⟨_,List.getElem?_eq_getElem (by omega)⟩;obtain⟨bk,ok,rfl,_,H5⟩:=Ff 0 p hp;rw[Nat.add_zero] at H5;have Dh:mo - 1<mo:=(by omega);have hmz:¬mo=0:=(by omega);have hmz2:((mo:Int)==0)=false:=beq_eq_false_iff_ne.2 (by omega);have Hk:wrap64 ((mo:Int) - 1)=(mo:Int) - 1:=Z6a _ (by omega);have gck:=Zet Bf;have gcp:=Zet H5;have gcx:=Zet Gd;have Gq:0<ll:=(by omega);by_cases hpx:p<x
        ·have Fl:Hid (Gath a b c ll L (Mo++[ZeL y n]) t'):=by
          have He:=hG.out.step (by omega) (by have:=hL.out;omega) V3 Ls hyb.out V6 Um.out (by rw[hL.out,Ph.out]) (by rw[hL.out];exact Va.out.symm) (fun k2 p2 q2 Aw Hj Wo=>(by rw[hk] at Aw;cases Aw;rw[hp] at Hj;cases Hj;rw[hL.out,<-I0.out,hx] at Wo;cases Wo;exact hpx));rw[hL.out] at He;exact He
         clear hk En hp hx h3 Gj Dj Ff Ux;go_wp2;refine ZeG 29 (by kernel_rfl) ?_;refine ZeB [0,1,2,3,4,5,6,7,8,9,10,11,12,13,14,15,16,17,18,19,20,21,22,23,24,25,26,27,28] (by kernel_rfl) (by kernel_rfl) ?_;simp only[ZeD,List.getElem?_cons_succ,List.getElem?_cons_zero,List.cons_append,List.nil_append]
         repeat (go_big_quiet_step (fail))
         refine wpQuiet_nil ?_;refine Zf6 (by kernel_rfl) (fun W hW=> ?_);have F1:=Ge.trans hW;have F4:=Cc.ext hW;have Vb:=Ew.ext hW;have Jr:=(hE.trans F1).cellS V4.out;clear Ge Cc Ew hI C1 hW q0 q1 q2 q3 q4 g0 g1 g2 g3 g4 Bf H5 Gd gck gcp gcx Hk Dh;go_wp2;refine Zhk (ExtX fun q=>N<=q) (by kernel_rfl) ?_;have hD:=(Ext.rfl' W).drew;have Lu:=F1.trans hD;have Js:=F4.ext hD;have Pj:=Vb.ext hD;have Gx:=hD.cellS Jr;have Pk:N<=W.drew.heap.size:=(by rw[Qw.out];exact Lu.size);generalize W.drew=Wd at Lu Js Pj Gx Pk⊢;clear F1 F4 Vb Jr hD;have gu:=GrE.cell (X:=fun q=>N<=q) V8 Gx;refine Zh8 (ExtX.pre _) [0,1,4,5,6,7,8,9] (by kernel_rfl) (by kernel_rfl) ?_;simp only[ZeD,List.getElem?_cons_succ,List.getElem?_cons_zero,List.cons_append,List.nil_append]
         repeat (go_big_quiet_step (fail))
         refine wpQuiet_nil ?_;refine Zh4 2 rfl (by kernel_rfl) rfl ?_;clear gu;refine Zf3 ⟨.slice (some ⟨Wd.heap.size,0,none⟩) 1 1,Wd.alloc (.cells #[(.slice (some ⟨by1,oy1,none⟩) ll cl)] 27),by simp[go_sem,execOp,Act.eval],Go.Nk.Ext.toX ((Ext.rfl' _).alloc _) _,?_⟩;have Pm:=(Zhw Wd (.slice (some ⟨by1,oy1,none⟩) ll cl) 27).1;have eA:=(Ext.rfl' Wd).alloc (.cells #[(.slice (some ⟨by1,oy1,none⟩) ll cl)] 27);generalize hWA:Wd.alloc _=WA at Pm eA⊢;clear hWA;go_simp;refine Zh4 3 rfl (by kernel_rfl) rfl ?_;refine ZhP _ _ rfl N (.slice (some ⟨bM,oM,none⟩) mo rc) Mo rfl (Js.ext eA) Wd.heap.size (.slice (some ⟨by1,oy1,none⟩) ll cl) ly rfl Pm (Pj.ext eA) (by have:=Bn.out;omega) (Nat.le_trans Pk eA.size) (fun g2 cp2 W8 Lv Pn Kq P3=>⟨Zhv Pn (fun k hk=>(Js.lt hk).1),?_⟩);have hX8:Ext W5 W8:=(Lu.trans eA).grown Pn (fun k hk=>by rw[<-Qw.out];exact(Js.lt hk).1);go_simp;refine Zh8 (ExtX.pre _) [10,11] (by kernel_rfl) (by kernel_rfl) ?_;simp only[ZeD,List.getElem?_cons_succ,List.getElem?_cons_zero,List.cons_append,List.nil_append]
         repeat (go_big_quiet_step (fail))
         refine wpQuiet_nil ?_;refine ZhF (by kernel_rfl) ?_;clear Lu Js Pj Gx Pk eA Pm Pn Kq;rw[Bn.out] at Lv;rw[I0.out] at Lv;rw[Bn.out];go_wp2;exact⟨⟨i+1,t',Mo++[ZeL y n],by omega,by push_cast;rfl,rfl,hX8,by first|exact Lv|simpa using Lv,by rw[List.length_append,List.length_singleton,Bn.out];omega,Fl⟩,by simp[intOf];omega⟩
        ·clear hk En hp hx h3 Gj Dj Ff Ux;go_wp2;refine ZeG 29 (by kernel_rfl) ?_;refine ZeB [0,1,2,3,4,5,6,7,8,9,10,11,12,13,14,15,16,17,18,19,20,21,22,23,24,25,26,27,28] (by kernel_rfl) (by kernel_rfl) ?_;simp only[ZeD,List.getElem?_cons_succ,List.getElem?_cons_zero,List.cons_append,List.nil_append]
         repeat (go_big_quiet_step (fail))
         refine wpQuiet_nil ?_;refine Zf6 (by kernel_rfl) (fun W hW=> ?_);have F1:=Ge.trans hW;have F4:=Cc.ext hW;clear Ge Cc Ew hI C1 hW q0 q1 q2 q3 q4 g0 g1 g2 g3 g4 Bf H5 Gd gck gcp gcx Hk Dh;go_wp2;exact⟨⟨i+1,t,Mo,by omega,by push_cast;rfl,rfl,F1,F4,by have:=Bn.out;omega,hG⟩,by simp[intOf];omega⟩
      ·have h2b:(mv==1)=false:=beq_eq_false_iff_ne.2 h2;go_wp2;refine ZeG 29 (by kernel_rfl) ?_;refine ZeB [0,1,2,3,4,5,6,7,8,9,10,11,12,13,14,15,16,17,18,19,20,21,22,23,24,25,26,27,28] (by kernel_rfl) (by kernel_rfl) ?_;simp only[ZeD,List.getElem?_cons_succ,List.getElem?_cons_zero,List.cons_append,List.nil_append]
       repeat (go_big_quiet_step (fail))
       refine wpQuiet_nil ?_;refine Zf6 (by kernel_rfl) (fun W hW=> ?_);have F1:=Ge.trans hW;have F4:=Cc.ext hW;clear Ge Cc Ew hI C1 hW q0 q1 q2 q3 q4 g0 g1 g2 g3 g4;go_wp2;exact⟨⟨i+1,t,Mo,by omega,by push_cast;rfl,rfl,F1,F4,by have:=Bn.out;omega,hG⟩,by simp[intOf];omega⟩
     ·have h1b:((ll:Int)==(M:Int))=false:=beq_eq_false_iff_ne.2 (by omega);go_wp2;refine ZeG 29 (by kernel_rfl) ?_;refine ZeB [0,1,2,3,4,5,6,7,8,9,10,11,12,13,14,15,16,17,18,19,20,21,22,23,24,25,26,27,28] (by kernel_rfl) (by kernel_rfl) ?_;simp only[ZeD,List.getElem?_cons_succ,List.getElem?_cons_zero,List.cons_append,List.nil_append]
      repeat (go_big_quiet_step (fail))
      refine wpQuiet_nil ?_;refine Zf6 (by kernel_rfl) (fun W hW=> ?_);have F1:=Ge.trans hW;have F4:=Cc.ext hW;clear Ge Cc Ew hI C1 hW q0 q1 q2 q3 q4 g0 g1 g2 g3 g4;go_wp2;exact⟨⟨i+1,t,Mo,by omega,by push_cast;rfl,rfl,F1,F4,by have:=Bn.out;omega,hG⟩,by simp[intOf];omega⟩
  ·have hil:(i:Int)<(tn:Int):=by omega
   obtain⟨x,hx⟩:∃x,T[i]? =some x:=⟨_,List.getElem?_eq_getElem (by have:=hT.out;omega)⟩;obtain⟨bt,ot,rfl,_,Gd⟩:=Uv i x hx;have hxF:Hid (∀l∈F,x∉l):=Cj.out x (List.mem_of_getElem? hx);clear hx;go_wp2;go_loopw [11] (fun v11 wr=>∃k:Nat,k<=q/\v11= .int .i64 k/\Ext w4 wr) (fun v11 _=>q - (intOf v11).toNat)
   case atStart=>exact⟨0,Nat.zero_le _,rfl,hX⟩
   case round=>
    clear hX;obtain⟨k,hk,rfl,hX⟩:=hrel;by_cases hkq:k=q
    ·subst hkq;go_wp2;exact⟨⟨i+1,by omega,by push_cast;rfl,hX⟩,by simp[intOf];omega⟩
    ·have Dj:(k:Int)<(q:Int):=(by omega);obtain⟨l,hl⟩:∃l,F[k]? =some l:=⟨_,List.getElem?_eq_getElem (by have:=Ww.out;omega)⟩;have Na:=List.mem_of_getElem? hl;have H9:=Nc.out l Na;obtain⟨bF,oF,ad,cl,rfl,_,Df,_,Vd⟩:=Nd k l hl;have Wx:=Vd.ext hX;rw[H9] at Df;have hcA:=hX.cellS Df;have hcB:=hX.cellS Gd;have hh:=fun W (hI:RawI W ad l)=>Zhj ad M cl l x W H9 (by omega) hI
     rw[decide_eq_false (hxF.out l Na)] at hh;clear hl Vd Df H9 Na;have gA:=Zet hcA;have gB:=Zet hcB;go_wp2;refine ZeG 9 (by kernel_rfl) ?_;refine ZeB [0,1,2,3,4,5,6,7] (by kernel_rfl) (by kernel_rfl) ?_;simp only[ZeD,List.getElem?_cons_succ,List.getElem?_cons_zero,List.cons_append,List.nil_append]
     repeat (go_big_quiet_step (fail))
     refine wpQuiet_nil ?_;refine ZeX 8 (f:=39) (args:= #[.slice ad M cl,.int .i64 x]) (v:= .bool false) (by kernel_rfl) rfl (by kernel_rfl) rfl (fun W=>by simp[go_sem,execOp,Act.eval]) (fun W hW=>hh W (Wx.ext hW)) ?_;go_simp;refine Zf6 (by kernel_rfl) (fun W hW=> ?_);have Ge:=hX.trans hW;clear hW hX gA gB hcA hcB;go_wp2;exact⟨⟨k+1,by omega,by push_cast;rfl,Ge⟩,by simp[intOf];omega⟩
end Go.Proofs.Tryq
namespace Go.Proofs.Tryq
open Go Go.Nk Go.RowKit
set_option linter.all false
theorem Zmo(a b c m:Int)(base:Option Addr)(n cap:Nat)(L:List Sf)(ob:Option Addr)(on oc:Nat)(O:List Int)(pb:Option Addr)(pn pc:Nat)(pk:List Int)(w:World)(A2:L.length=n)(hol:O.length=on)(E3:∀x∈O,0<=x/\x<65536)(Nu:pk.length=pn)(hu:∀x∈pk,0<=x/\x<65536)(hM:Meas w)(Bn:Most w)(hd:Deb w)(hS:RawA w base L)(hO:RawU w ob O)(Lc:RawU w pb pk):
 Calls prog 6 #[.agg #[.int .i64 a,.int .i64 b,.int .i64 c,.int .i64 m,.slice base n cap],.slice ob on oc,.slice pb pn pc] w fun e w'=>e= .returned (.bool true):=by
 have Nb:=fun W hW=>Zfd a b c m base n cap L W A2 (hS.ext hW)
 have Bc:∀W,Ext w W->Calls prog 22 #[] W fun e w'=>e= .returned (.bool true)/\Ext W w':=fun W (hW:Ext w W)=>Zce W (hM.ext hW) (Bn.ext hW) (hd.ext hW)
 have he:∀(M:Int),m=M->(Zfc a b c m L=true->20<on)->Calls prog 6 #[.agg #[.int .i64 a,.int .i64 b,.int .i64 c,.int .i64 m,.slice base n cap],.slice ob on oc,.slice pb pn pc] w fun e w'=>e= .returned (.bool true):=fun M _ h0=>ZmD a b c m base n cap ob on oc pb pn pc w _ h0 Nb Bc
 by_cases h0:Zfc a b c m L=true->20<on
 ·exact he m rfl h0
 ·have hf:Zfc a b c m L=true:=by
   cases hf:Zfc a b c m L with
   |true=>rfl
   |false=>exact absurd (fun h=>by rw[hf] at h;cases h) h0
  have Vk:on<=20:=Nat.le_of_not_lt fun h=>h0 fun _=>h
  rw[hf] at Nb;clear h0 he;have hs:Zp a b c m L=0:=by
   have:Z1B L=false/\Zp a b c m L=0:=by simpa[Zfc] using hf
   exact this.2
  have Ba:=ZlF hs;have h9:=Ba.len;have hm:=Ba.m;obtain⟨M,rfl⟩:=Int.eq_ofNat_of_zero_le (show 0<=m by omega);have hF:=fun l hl=>Zmr hs (l:=l) hl
  obtain⟨hTa,hTm,hTc⟩:=fill_left hs;rw[Int.toNat_natCast] at hTc;have Nc:∀l∈Z66 a b c M L,l.length=M:=fun l hl=>by have:=(hF l hl).len;rwa [Int.toNat_natCast] at this
  have hmul:(((Z66 a b c M L).length:Int)*(M:Int))=(((Z66 a b c M L).length*M:Nat):Int):=by push_cast;rfl
  obtain⟨Xk,_⟩:=Zm9 Ba pk;have hbig:(Z66 a b c M L).length*M<=9:=by omega
  have hql:(Z66 a b c M L).length<=(Z66 a b c M L).length*M:=Nat.le_mul_of_pos_right _ (by omega);refine Zmx a b c M base n cap ob on oc pb pn pc w (by omega) Vk O hol hO E3 L A2 hs (by omega) (by omega) (Z66 a b c M L) _ rfl (by omega) rfl (Z6T a b c M L) _ rfl (by omega) (fun x hx l hl=>((hTm x).1 hx).2 l hl) Nc (((Z66 a b c M L).length*M:Nat):Int) (by rw[hmul];exact Z6a _ (by omega)) (by rw[Z6a ((n:Int) - (((Z66 a b c M L).length*M:Nat):Int)) (by omega)];omega) Nb (fun W hW=> ?_) (fun ao cp W hW hR=> ?_) (fun bl cl W hI=> ?_) (fun y W hy hW=> ?_) (fun y bl cl W hy hW Df hI=> ?_) Bc
  ·refine(ZbY a b c M base n cap L W A2 (by omega) (hM.ext hW) (hS.ext hW)).mono ?_;rw[show Zo a b c (M:Int) L []=0 by rw[Zhq];exact hs];rintro e w2 ⟨v1,v2,rfl,h1,h2,hE⟩;obtain⟨ao,cp,rfl,hR⟩:=h1.rawL (fun l hl=>by have:=Nc l hl;omega);obtain⟨bl,cl,rfl,hI,_⟩:=h2.rawI;exact⟨ao,cp,bl,cl,rfl,hR,hI,hE⟩
  ·refine Zms a b c M base n cap (Z66 a b c M L) ao _ cp pb pn pc W rfl (by omega) (by omega) (by omega) hR Nc (fun i l k x y hl hk hx hy=>Zmv hs hl hk hx hy) (fill_dis hs) (fun l hl bl cl W hI=> ?_) (fun l hl bl cl W2 Wy hI=> ?_)
   ·have:=Z5a n bl M cl l W (by omega) (Nc l hl) (by omega) hI;rw[ZeE (hF l hl).asc fun x hx=>by have:=(hF l hl).mem x hx;rw[A2] at this;exact⟨this.1,this.2.1⟩] at this;exact this
   ·have Ao:∀i∈l,0<=i/\i<L.length:=fun i hi=>⟨((hF l hl).mem i hi).1,((hF l hl).mem i hi).2.1⟩
    have hyes:=Zmt Ba (hF l hl).asc Ao Xk (hF l hl).yes;exact Zm6 a b c M base n cap L l bl M cl pb pn pc pk true W2 hs A2 (hS.ext (hW.trans Wy)) (Nc l hl) (by omega) (fun x hx=>by have:=Ao x hx;rw[A2] at this;exact this) ⟨fun _=>hyes,fun _=>rfl⟩ hI Nu hu (Lc.ext (hW.trans Wy))
  ·have:=Z5a n bl (Z6T a b c M L).length cl (Z6T a b c M L) W (by omega) rfl (by omega) hI;rw[ZeE hTa fun x hx=>by have:=((hTm x).1 hx).1;rw[A2] at this;exact this] at this;exact this
  ·exact ZeT a b c M y base n cap W (by omega) ⟨by omega,by omega⟩
  ·have hz:=Zew (y:Int) n;have Hq:=ZeN (y:Int) n;have:=Z5Y a b c M base n cap L bl (ZeL y n).length cl (ZeL y n) W A2 (by omega) rfl Df (by omega) (hM.ext hW) (hS.ext hW) hI;rw[Zeu hs (by rw[A2];exact hz),show Zo a b c (M:Int) L (ZeL y n)=0 by rw[Zo,A2,hz,hs];rfl] at this;exact this
end Go.Proofs.Tryq
section
set_option maxRecDepth 100000
namespace Go.Proofs.YtedkbdkbbnemlaaGreatDoor
open Go
namespace JarrowMost
theorem k0:Rows.arrowMostRow.wf (OpenSpec.ofChange Rows.arrowMostSpec)=true:=by kernel_rfl
theorem k1:laidOutB Tryz.prog=true:=by kernel_rfl
theorem k2:mapsRowed Tryz.prog=true:=by kernel_rfl
theorem k3:Tryz.f6.params.all (Tryz.prog.readableRec ·)=true:=by kernel_rfl
theorem k4:namedTie Tryz.prog Rows.arrowMostRow.named Rows.arrowMostSpec.vars=true:=by kernel_rfl
theorem k5:(Rows.arrowMostRow.stops==[])=true:=by kernel_rfl
theorem k6:(Tryz.prog.stops==[])=true:=by kernel_rfl
theorem k7:(Rows.arrowMostRow.knobs==[])=true:=by kernel_rfl
theorem k8:(Tryz.prog.stopKnobs==[])=true:=by kernel_rfl
theorem k9:(Rows.arrowMostRow.inPlace==Tryz.prog.inPlace 6)=true:=by kernel_rfl
theorem k10:(Rows.arrowMostRow.unfollowed==Tryz.prog.unfollowed 6)=true:=by kernel_rfl
theorem k11:(Rows.arrowMostRow.recurses==Tryz.prog.recurses 6)=true:=by kernel_rfl
theorem k12:(Rows.arrowMostRow.named==Tryz.prog.varsNamed 6)=true:=by kernel_rfl
theorem k13:(Rows.arrowMostRow.maps==(Tryz.f6.params.toList++Rows.arrowMostSpec.plain.varTypes Tryz.prog).any (Tryz.prog.mapsRec ·))=true:=by kernel_rfl
theorem k14:(Rows.arrowMostRow.ifaces==(Tryz.f6.params.toList++Rows.arrowMostSpec.plain.varTypes Tryz.prog).any (Tryz.prog.ifacesRec ·))=true:=by kernel_rfl
theorem k15:(Rows.arrowMostRow.mapsOut==Tryz.prog.mapsAmong Tryz.f6.resultTypes.toList)=true:=by kernel_rfl
theorem k16:(Rows.arrowMostRow.loops==(Tryz.f6.params.toList++Rows.arrowMostSpec.plain.varTypes Tryz.prog).any (Tryz.prog.loopsFrom ·))=true:=by kernel_rfl
theorem k17:(Rows.arrowMostRow.wideKeys==(Tryz.f6.params.toList++Rows.arrowMostSpec.plain.varTypes Tryz.prog++Tryz.f6.resultTypes.toList).any (Tryz.prog.wideKeysFrom ·))=true:=by kernel_rfl
theorem k18:Rows.arrowMostSpec.vars.all (Tryz.prog.varReadable ·)=true:=by kernel_rfl
theorem k19:Tryz.f6.resultTypes.all (fun t=>Tryz.prog.readableRec t&&decide (t<Tryz.prog.types.size))=true:=by kernel_rfl
theorem k20:(Rows.arrowMostRow.ifacesOut==Tryz.f6.resultTypes.toList.any (Tryz.prog.ifacesRec ·))=true:=by kernel_rfl
theorem k21:(Rows.arrowMostRow.loopsOut==Tryz.f6.resultTypes.toList.any (Tryz.prog.loopsFrom ·))=true:=by kernel_rfl
theorem k22:(Rows.arrowMostRow.plainKeys==Tryz.prog.plainKeys)=true:=by kernel_rfl
theorem k23:Rows.arrowMostRow.shortTexts.isNone=true:=by kernel_rfl
theorem k24:Tryz.prog.stopsHeard=true:=by kernel_rfl
theorem k25:Tryz.prog.mayEnter=true:=by kernel_rfl
theorem k26:(Rows.arrowMostRow.lifted==Tryz.prog.liftsFinal)=true:=by kernel_rfl
theorem k27:(Tryz.prog.make==some Rows.arrowMostRow.make)=true:=by kernel_rfl
theorem k28:(Rows.arrowMostRow.kinds==(if Rows.arrowMostRow.domain.isEmpty then[] else Tryz.f6.params.toList.map fun t=>match Tryz.prog.underlying t with|some (.int k)=>some k|_=>none))=true:=by kernel_rfl
theorem k29:(Rows.arrowMostRow.pinned==Rows.arrowMostRow.pinnedBy)=true:=by kernel_rfl
theorem k30:(Rows.arrowMostRow.veiled==(Tryz.f6.params.toList++Rows.arrowMostSpec.plain.varTypes Tryz.prog++Tryz.f6.resultTypes.toList).any (Tryz.prog.veiledRec ·))=true:=by kernel_rfl
theorem k31:Rows.arrowMostRow.veiledFits Tryz.prog Tryz.f6.params.toList (Tryz.f6.params.toList++Rows.arrowMostSpec.plain.varTypes Tryz.prog++Tryz.f6.resultTypes.toList)=true:=by kernel_rfl
theorem ZI{a b:Bool}(ha:a=true)(hb:b=true):(a&&b)=true:=by rw[ha,hb];rfl
theorem facts:joinedFacts Tryz.prog 6 Tryz.f6 Rows.arrowMostSpec Rows.arrowMostRow=true:=(ZI (ZI (ZI (ZI (ZI (ZI (ZI (ZI (ZI (ZI (ZI (ZI (ZI (ZI (ZI (ZI (ZI (ZI (ZI (ZI (ZI (ZI (ZI (ZI (ZI (ZI (ZI (ZI (ZI (ZI (ZI k0 k1) k2) k3) k4) k5) k6) k7) k8) k9) k10) k11) k12) k13) k14) k15) k16) k17) k18) k19) k20) k21) k22) k23) k24) k25) k26) k27) k28) k29) k30) k31)
end JarrowMost
end Go.Proofs.YtedkbdkbbnemlaaGreatDoor
end
namespace Go.Proofs.Tryq
set_option maxRecDepth 100000
open Go Go.Nk Go.RowKit Go.ChangeShapes Go.WideShapes Go.ChangeAt Go.Conc Go.Deep
attribute [local instance] theBan
section
variable {H:Type} {enc:TypeId×Value->H} {W:World} {b0:Nat}
theorem Zf7{n:Int}(h:(Lit.int .u16 n).wf=true):0<=n/\n<65536:=by
 have h1:IntKind.u16.min=0:=rfl;have h2:IntKind.u16.max=65535:=rfl;simp only[Lit.wf,Bool.and_eq_true,decide_eq_true_eq] at h;omega
theorem under40:Tryz.prog.underlying 40=some (.int .u16):=by kernel_rfl
end
section
variable {H:Type} {enc:TypeId×Value->H} {W:World} {b0:Nat}
theorem under41:Tryz.prog.underlying 41=some (.slice 40):=by kernel_rfl
theorem cells40:Tryz.prog.cellsOf 40=1:=by kernel_rfl
theorem Zgs{v:Value}{d:DataW H}{p:List MemPlace}(hv:Value.okWide Tryz.prog W .any b0 41 v)(h:DataW.Trod enc Tryz.prog W 0 (fun _=>true) true 41 v d p):
 ∃(base:Option Addr)(n cap:Nat)(l:List Int),v= .slice base n cap/\l.length=n/\n<=cap/\cap<=maxLen/\VRel id (Nk.Live (Zx W)) v v/\RawU W base l/\∀y∈l,(Lit.int .u16 y).wf=true:=by
 have hc:=Zei hv (by kernel_rfl) (by kernel_rfl);obtain⟨fuel,hf⟩:=h;have e:v.cells.toList=[v]:=by
  cases v<;>first|rfl|skip
  rename_i cs;unfold Cell.okWide at hc;simp only[under41] at hc;exact hc.elim
 rw[e] at hf;obtain⟨base,n,cap,e,hn,hm,hr,Qb⟩:=Z5V under41 cells40 (by decide) ⟨_,hc⟩ hf;have key:∀i,i<n->∃x:Int,(∃b off,base=some ⟨b,off,none⟩/\b<W.heap.size/\W.cell? ⟨b,off+i,none⟩=some (.int .u16 x))/\(Lit.int .u16 x).wf=true:=by
  intro i hi;obtain⟨b,off,h1,h2,cs,h3,h4,h5⟩:=Qb i hi;have Af:cs.length<=Tryz.prog.cellsOf 40:=by rw[cells40];omega
  obtain⟨x1,e1,hw⟩:=Z0z (n:=0) (o:=0) (u:=40) Af h5 (by kernel_rfl) under40;have:=(h4 0 (by omega)).trans e1;rw[Nat.mul_one,Nat.add_zero] at this;exact⟨x1,⟨b,off,h1,h2,this⟩,hw⟩
 obtain⟨L,C5,Mg⟩:=Zaa n key;exact⟨base,n,cap,L,e,C5,hn,hm,hr,fun i x hx=>(Mg i x hx).1,fun y hy=>by obtain⟨i,hi⟩:=List.mem_iff_getElem?.1 hy;exact(Mg i y hi).2⟩
end
theorem Zgt{W:World}{base:Option Addr}{l:List Int}(h:RawU W base l):RawU (Zx W) base l:=fun i x hi=>by
 obtain⟨b,off,h1,h2,h3⟩:=h i x hi;exact⟨b,off,h1,by rw[Z1l];exact h2,Z0d rfl h3 rfl⟩
theorem Zgy{W:World}(t){base:Option Addr}{l:List Int}(h:RawU W base l):RawU (retape t W) base l:=fun i x hi=>by
 obtain⟨b,off,h1,h2,h3⟩:=h i x hi;exact⟨b,off,h1,h2,h3⟩
end Go.Proofs.Tryq
namespace Go.Proofs.YtedkbdkbbnemlaaGreatDoor
set_option maxRecDepth 100000
open Go Go.Nk Go.RowKit Go.ChangeShapes Go.WideShapes Go.ChangeAt Go.Conc
open Go.Proofs.Tryq
attribute [local instance] theBan
theorem Zmn(os:Os)(started:os.Started)(H:Type)(enc:TypeId×Value->H):
 ReturnsInLeavingWide {} Tryz.checked os 6 .any (fun w args=>(Rows.arrowMostSpec.pre enc Tryz.prog Tryz.f6 [] false w args/\laidMetH Tryz.prog laidL w)/\sizedMet enc Tryz.prog Tryz.f6 (OpenSpec.ofChange Rows.arrowMostSpec) false w args)
  (Rows.arrowMostSpec.post enc Tryz.prog Tryz.f6 false true false false):=by
 refine Z4e (n:=3) (ts:=[26,41,41]) started (by simp[keptList]) Tryz.func6 same6 (by kernel_rfl) Tryz.results6 (by kernel_rfl) (by rw[Tryz.params6]) rfl rfl (by kernel_rfl) (fun ds hd=>by
  match ds,hd with
  |[_,_,_],_=>rfl) (by kernel_rfl)
  (ChangeSpec.witness_shaped (enc:=enc) (C:=Tryz.checked) (os:=os) (X:=fun w _=>laidMetH Tryz.prog laidL w) false (World.doorLaid Tryz.prog 400 os) #[.agg #[.int .i64 0,.int .i64 0,.int .i64 0,.int .i64 0,.slice none 0 0],.slice none 0 0,.slice none 0 0] 8 rfl (Z3F os _) (by kernel_rfl) (by kernel_rfl) (by kernel_rfl) (Z7C os _)) ?_
 intro W base args ds p Ft hA hM Bn hd;rw[Tryz.params6] at Ft;obtain⟨v0,v1,v2,dx0,dx1,dx2,px0,px1,px2,rfl,rfl,rfl,h0,h1,h2⟩:=trodAll_three hA;obtain⟨a0,b0,c0,d0,ab0,n0,k0,S0,rfl,hL0,Vi,Cz,Gc,Hr,Ng⟩:=Z4c (Ft 0 26 v0 rfl rfl) h0;obtain⟨ab1,n1,k1,S1,rfl,C5,Xb,Ek,Du,Bq,Hk⟩:=Zgs (Ft 1 41 v1 rfl rfl) h1;obtain⟨ab2,n2,k2,S2,rfl,Mg,Qk,D5,C1,Cc,Eh⟩:=Zgs (Ft 2 41 v2 rfl rfl) h2;refine⟨((AR.nil.push Gc).push Du).push C1,fun t=> ?_⟩;exact Zmo a0 b0 c0 d0 ab0 n0 k0 S0 ab1 n1 k1 S1 ab2 n2 k2 S2 (retape t (Zx W)) hL0 C5 (fun x hx=>Zf7 (Hk x hx)) Mg (fun x hx=>Zf7 (Eh x hx)) hM (Za7 t Bn) hd (Za8 t (Z5T Hr)) (Zgy t (Zgt Bq)) (Zgy t (Zgt Cc))
theorem arrowMost_row:Rows.ArrowMostSaid:=
 OpenClaim.holds_of_wide_leaving 6 Tryz.f6 rfl rfl rfl rfl rfl rfl rfl ⟨rfl,rfl,rfl,rfl,rfl⟩ rfl rfl rfl rfl rfl (by kernel_rfl) Tryz.func6 JarrowMost.facts
  (of_decide_eq_true (by kernel_rfl)) (by unfold Func.isWrapper;first|(rw[if_pos (by decide+kernel)];kernel_rfl)|(rw[if_neg (by decide+kernel)];exact⟨rfl,rfl⟩))
  (fun os started H enc _=>Zmn os started H enc)
theorem arrowMost_card:Rows.ArrowMostCardSaid:=
 Zac .later [.data,.data,.data,.funcs] true (true,"0e1059176c690520e63ed0d32383d6ff1680ebd08dcb3a61820afc84c46f7b58") false
  arrowMost_row (by kernel_rfl) arrowMost_row_tie rfl ⟨rfl,rfl⟩ (by kernel_rfl) rfl
  (fun f fn hf hfn=>by
    obtain rfl:f=6:=Option.some.inj ((show Tryz.prog.funcNamed "nock/nocklaw01.ArrowMost" =some 6 by kernel_rfl).symm.trans hf) |>.symm
    obtain rfl:fn=Tryz.f6:=(Option.some.inj (Tryz.func6.symm.trans hfn)).symm
    exact⟨by kernel_rfl,fun j t ht=>by
     rw[Tryz.params6] at ht;have hm:t∈[26,41,41]:=(by simpa using Array.mem_of_getElem? ht);have Al:([26,41,41].all fun u=> !Tryz.prog.wantsStandIn u)=true:=(by kernel_rfl);exact(show Tryz.prog.wantsStandIn t=false by simpa using List.all_eq_true.1 Al t hm)⟩)
  (by kernel_rfl)
end Go.Proofs.YtedkbdkbbnemlaaGreatDoor
