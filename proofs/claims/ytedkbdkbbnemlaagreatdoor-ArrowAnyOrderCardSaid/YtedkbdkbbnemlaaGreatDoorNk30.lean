/- nocklaw01.ArrowAnyOrder: for every stock, any turn, any list the call returns true, on every schedule and without a data race; its arguments read afterwards as they read before; nothing that was in memory is changed; at the return no other goroutine does more than leave. The card ties the four listed package variables to the program's text. Conditions: none beyond the card's own (the listed variables hold what the program's text lays). The texts of this claim were shortened by program (no remarks, short names) to fit the bounds on a claim's size; their long form lies in the repository's folder wip. -/
import Derived.Test.YtedkbdkbbnemlaaGreatDoorNk29
import Derived.Carry
import Derived.JoinedOf
import Derived.KernelRfl
import Derived.Test.YtedkbdkbbnemlaaGreatDoorRows
set_option linter.all false
namespace Go.Proofs.Tryq
set_option maxRecDepth 100000
set_option maxHeartbeats 8000000
open Go Go.Nk Go.RowKit
set_option linter.all false
theorem ZlC(a b c m:Int)(base:Option Addr)(n cap:Nat)(L:List Sf)(w:World)(A2:L.length=n)(hn:n<=20)(hM:Meas w)(hS:RawA w base L)(h:Zp a b c m L=0):
 Calls prog 41 #[.agg #[.int .i64 a,.int .i64 b,.int .i64 c,.int .i64 m,.slice base n cap]] w fun e w'=>e= .returned (.int .i64 (Z66 a b c m L).length)/\Ext w w':=by
 have hf:=fun W (hW:Ext w W)=>ZbY a b c m base n cap L W A2 hn (hM.ext hW) (hS.ext hW)
 have ho:Zo a b c m L []=0:=by rw[Zhq];exact h
 simp only[ho] at hf;clear hS;go_enter func41,ntmps41
 go_wp2_with (
  go_at_call 37;refine(hf _ ((Ext.rfl' w).alloc _)).mono ?_;rintro e w2 ⟨v1,v2,rfl,hv,_,hE⟩
  obtain⟨ao,cp,rfl⟩:=hv.form)
 go_ret;exact⟨rfl,((Ext.rfl' w).alloc _).trans hE⟩
theorem ZlN{b:Nat}{w w':World}{v:Value}{S:List Sf}(h:OwnA b w v S)(e:∀k,v.ownBlock=some k->w'.heap[k]? =w.heap[k]?):OwnA b w' v S:=Z3d h e
theorem ZlD{L:List Sf}{v i:Nat}:∀x∈ZU L v i,x∈L:=by
 intro x hx;obtain⟨j,_,hj⟩:=List.mem_filterMap.1 hx;exact List.mem_of_getElem? hj
theorem ZlX(a b c m by8 bt:Int)(base:Option Addr)(n cap:Nat)(w:World)
 (J3:∀W,Ext w W->Calls prog 30 #[.agg #[.int .i64 a,.int .i64 b,.int .i64 c,.int .i64 m,.slice base n cap]] W fun e w'=>e= .returned (.bool false)/\Ext W w')
 (B9:∀W,Ext w W->Calls prog 22 #[] W fun e w'=>e= .returned (.bool true)/\Ext W w'):
 Calls prog 7 #[.agg #[.int .i64 a,.int .i64 b,.int .i64 c,.int .i64 m,.slice base n cap],.int .u8 by8,.int .u16 bt] w fun e w'=>e= .returned (.bool true):=by
 have Fi:(w.alloc (.cells #[.int .i64 a,.int .i64 b,.int .i64 c,.int .i64 m,.slice base n cap] 26)).heap[w.heap.size]? =some (.cells #[.int .i64 a,.int .i64 b,.int .i64 c,.int .i64 m,.slice base n cap] 26):=(Z3 _ _ _).trans (if_pos rfl);go_enter func7,ntmps7
 go_wp2_with (first
  |(go_at_call 30;refine(J3 _ ((Ext.rfl' w).alloc _)).mono ?_;rintro e w2 ⟨rfl,A7⟩
    have As:=((Ext.rfl' w).alloc _).trans A7;have hr:=A7.get Fi;obtain⟨q0,q1,q2,q3,q4⟩:=Zgj hr)
  |(go_at_call 22;refine(B9 _ As).mono ?_;rintro e w3 ⟨rfl,Ar⟩))
 go_ret;exact rfl
theorem ZlY(a b c m by8 bt:Int)(base:Option Addr)(n cap:Nat)(w:World)(Jr:n=0)
 (J3:∀W,Ext w W->Calls prog 30 #[.agg #[.int .i64 a,.int .i64 b,.int .i64 c,.int .i64 m,.slice base n cap]] W fun e w'=>e= .returned (.bool true)/\Ext W w')
 (B9:∀W,Ext w W->Calls prog 22 #[] W fun e w'=>e= .returned (.bool true)/\Ext W w'):
 Calls prog 7 #[.agg #[.int .i64 a,.int .i64 b,.int .i64 c,.int .i64 m,.slice base n cap],.int .u8 by8,.int .u16 bt] w fun e w'=>e= .returned (.bool true):=by
 have Fi:(w.alloc (.cells #[.int .i64 a,.int .i64 b,.int .i64 c,.int .i64 m,.slice base n cap] 26)).heap[w.heap.size]? =some (.cells #[.int .i64 a,.int .i64 b,.int .i64 c,.int .i64 m,.slice base n cap] 26):=(Z3 _ _ _).trans (if_pos rfl);subst Jr;go_enter func7,ntmps7
 go_wp2_with (first
  |(go_at_call 30;refine(J3 _ ((Ext.rfl' w).alloc _)).mono ?_;rintro e w2 ⟨rfl,A7⟩
    have As:=((Ext.rfl' w).alloc _).trans A7;have hr:=A7.get Fi;obtain⟨q0,q1,q2,q3,q4⟩:=Zgj hr)
  |(go_at_call 22;refine(B9 _ As).mono ?_;rintro e w3 ⟨rfl,Ar⟩))
 go_ret;exact rfl
theorem ZlR(a b c m by8 bt:Int)(base:Option Addr)(n cap:Nat)(w:World)(Kx:n<=9)(Ys:1<=n)(L:List Sf)(A2:Hid (L.length=n))(hS:Hid (RawA w base L))(Jb:Hid (∀x∈L,x.nm.size<=maxLen))(B:Nat)(hB:by8=(B:Int))(hB8:B<256)(l:List Int)(ln:Nat)(hl:Hid (l.length=ln))(hln:ln<=9)(k:List Int)(kn:Nat)(hk:Hid (k=Zlo n B l n))(E0:Hid (k.length=kn))(Cd:kn<=9)(mv:Int)(qm:Nat)
 (J3:∀W,Ext w W->Calls prog 30 #[.agg #[.int .i64 a,.int .i64 b,.int .i64 c,.int .i64 m,.slice base n cap]] W fun e w'=>e= .returned (.bool true)/\Ext W w')
 (h31:∀W,Ext w W->Calls prog 31 #[.agg #[.int .i64 a,.int .i64 b,.int .i64 c,.int .i64 m,.slice base n cap],.int .u16 bt] W fun e w'=>∃bl cl,e= .returned (.slice bl ln cl)/\ln<=cl/\RawI w' bl l/\Ext W w')
 (h23:∀bl cl W,Ext w W->ln<=cl->RawI W bl l->Calls prog 23 #[.agg #[.int .i64 a,.int .i64 b,.int .i64 c,.int .i64 m,.slice base n cap],.slice bl ln cl] W fun e w'=>e= .returned (.tuple #[.int .i64 mv,.int .i64 0])/\Ext W w')
 (Y6:∀mb mc bl cl W,Ext w W->RawA W mb (ZU L B n)->kn<=cl->RawI W bl k->Calls prog 23 #[.agg #[.int .i64 a,.int .i64 b,.int .i64 c,.int .i64 m,.slice mb n mc],.slice bl kn cl] W fun e w'=>e= .returned (.tuple #[.int .i64 mv,.int .i64 0])/\Ext W w')
 (Ui:∀W,Ext w W->Calls prog 41 #[.agg #[.int .i64 a,.int .i64 b,.int .i64 c,.int .i64 m,.slice base n cap]] W fun e w'=>e= .returned (.int .i64 qm)/\Ext W w')
 (D7:∀mb mc W,Ext w W->RawA W mb (ZU L B n)->Calls prog 41 #[.agg #[.int .i64 a,.int .i64 b,.int .i64 c,.int .i64 m,.slice mb n mc]] W fun e w'=>e= .returned (.int .i64 qm)/\Ext W w')
 (B9:∀W,Ext w W->Calls prog 22 #[] W fun e w'=>e= .returned (.bool true)/\Ext W w'):
 Calls prog 7 #[.agg #[.int .i64 a,.int .i64 b,.int .i64 c,.int .i64 m,.slice base n cap],.int .u8 by8,.int .u16 bt] w fun e w'=>e= .returned (.bool true):=by
 have Fi:(w.alloc (.cells #[.int .i64 a,.int .i64 b,.int .i64 c,.int .i64 m,.slice base n cap] 26)).heap[w.heap.size]? =some (.cells #[.int .i64 a,.int .i64 b,.int .i64 c,.int .i64 m,.slice base n cap] 26):=(Z3 _ _ _).trans (if_pos rfl);subst hB;have Jr:((n:Int)==0)=false:=beq_eq_false_iff_ne.2 (by omega);have hnz:¬n=0:=by omega
 go_enter func7,ntmps7
 go_wp2_with (
  go_at_call 30;refine(J3 _ ((Ext.rfl' w).alloc _)).mono ?_;rintro e w2 ⟨rfl,hF⟩
  have A7:=((Ext.rfl' w).alloc _).trans hF;have hr:=hF.get Fi;clear hF;obtain⟨q0,q1,q2,q3,q4⟩:=Zgj hr)
 have Hd:=((Ext.rfl' w2).alloc (.cells #[.int .i64 a,.int .i64 b,.int .i64 c,.int .i64 m,.slice none 0 0] 26)).get hr;have Dz:=(Z3 w2 (.cells #[.int .i64 a,.int .i64 b,.int .i64 c,.int .i64 m,.slice none 0 0] 26) w2.heap.size).trans (if_pos rfl);have Ar:=A7.alloc (.cells #[.int .i64 a,.int .i64 b,.int .i64 c,.int .i64 m,.slice none 0 0] 26);have Y7:w.heap.size<w2.heap.size:=Z5 hr;clear hr Fi A7 q0 q1 q2 q3 q4;obtain⟨ob,E6⟩:∃ob,ob=w2.heap.size:=⟨_,rfl⟩;rw[<-E6] at Dz Y7;rw[<-E6];clear E6;generalize World.alloc w2 _=W5 at Dz Hd Ar⊢;clear w2;have Ev:=Z5 Dz;obtain⟨N,hN⟩:∃N,N=W5.heap.size:=⟨_,rfl⟩;have Y8:¬N<=w.heap.size:=by omega
 have Ya:¬N<=ob:=by omega
 have hNN:N<=W5.heap.size:=by omega
 go_loopw [9] (fun v9 wr=>∃(i:Nat)(u:Value),i<=n/\v9= .int .i64 i/\Ext w wr/\N<=wr.heap.size/\wr.heap[w.heap.size]? =some (.cells #[.int .i64 a,.int .i64 b,.int .i64 c,.int .i64 m,.slice base n cap] 26)/\wr.heap[ob]? =some (.cells #[.int .i64 a,.int .i64 b,.int .i64 c,.int .i64 m,u] 26)/\OwnA N wr u (ZU L B i)) (fun v9 _=>n - (intOf v9).toNat)
 case atStart=>exact⟨0,_,Nat.zero_le _,rfl,Ar,hNN,Hd,Dz,World.ownsRow_nil _ _ _ _⟩
 case round=>
  clear Ar Dz Hd hN hNN Ev;obtain⟨i,u,hi,rfl,hE,hNw,D1,Ah,hO⟩:=hrel;have El:=Zlk (L:=L) (by have:=A2.out;omega) B;by_cases Al:i=n
  ·replace Al:=Al.symm;subst Al;obtain⟨g,mc,rfl,_,_,J4,hmc,_⟩:=hO.form (by rw[(El _).1];omega) (fun x hx=>Jb.out x (ZlD x hx));rw[(El _).1] at Ah hmc;clear hO El;obtain⟨mb,hmb⟩:∃mb:Option Addr,mb=some ⟨g,0,none⟩:=⟨_,rfl⟩;rw[<-hmb] at Ah J4;clear hmb;obtain⟨q0,q1,q2,q3,q4⟩:=Zgj D1;obtain⟨x0,x1,x2,x3,x4⟩:=Zgj Ah
   go_wp2_with (
    go_at_call 31;refine(h31 _ hE).mono ?_;rintro e w6 ⟨bl,cl,rfl,Fm,hI,hF⟩
    replace hE:=hE.trans hF;replace D1:=hF.get D1;replace Ah:=hF.get Ah;replace J4:=J4.ext hF;clear q0 q1 q2 q3 q4 x0 x1 x2 x3 x4;obtain⟨q0,q1,q2,q3,q4⟩:=Zgj D1;obtain⟨x0,x1,x2,x3,x4⟩:=Zgj Ah)
   clear q0 q1 q2 q3 q4 x0 x1 x2 x3 x4;obtain⟨N2,hN2⟩:∃N2,N2=w6.heap.size:=⟨_,rfl⟩;obtain⟨wo,rfl⟩:∃wo:World,wo=w6:=⟨_,rfl⟩;have Yb:=Z5 Ah;go_loopw [11,12] (fun v11 v12 wr=>∃i:Nat,i<=n/\v12= .int .i64 i/\Ext wo wr/\OwnI N2 wr v11 (Zlo n B l i)) (fun _ v12 _=>n - (intOf v12).toNat)
   case atStart=>exact⟨0,Nat.zero_le _,rfl,Ext.rfl' _,World.ownsRow_nil _ _ _ _⟩
   case round=>
    obtain⟨i,hi,rfl,hF,hO⟩:=hrel;by_cases Al:i=n
    ·replace Al:=Al.symm;subst Al;rw[<-hk.out] at hO;obtain⟨bk,ck,rfl,Gb,Bv⟩:=hO.rawI;rw[E0.out] at Bv⊢;replace hI:=hI.ext hF;replace hE:=hE.trans hF;replace D1:=hF.get D1;replace Ah:=hF.get Ah;replace J4:=J4.ext hF;clear hO hF hN2 Yb;obtain⟨q0,q1,q2,q3,q4⟩:=Zgj D1;obtain⟨x0,x1,x2,x3,x4⟩:=Zgj Ah
     go_wp2_with (first
      |(go_at_call 23;(with_reducible refine(h23 bl cl _ hE Fm hI).mono ?_);rintro e w7 ⟨rfl,hF⟩
        replace Gb:=Gb.ext hF;replace hE:=hE.trans hF;replace D1:=hF.get D1;replace Ah:=hF.get Ah;replace J4:=J4.ext hF;clear q0 q1 q2 q3 q4 x0 x1 x2 x3 x4;obtain⟨q0,q1,q2,q3,q4⟩:=Zgj D1;obtain⟨x0,x1,x2,x3,x4⟩:=Zgj Ah)
      |(go_at_call 23;(with_reducible refine(Y6 mb mc bk ck _ hE J4 Bv Gb).mono ?_);rintro e w8 ⟨rfl,hF⟩
        replace hE:=hE.trans hF;replace D1:=hF.get D1;replace Ah:=hF.get Ah;replace J4:=J4.ext hF;clear q0 q1 q2 q3 q4 x0 x1 x2 x3 x4;obtain⟨q0,q1,q2,q3,q4⟩:=Zgj D1;obtain⟨x0,x1,x2,x3,x4⟩:=Zgj Ah))
     have g0:=Zet q0;have g1:=Zet q1;have g2:=Zet q2;have g3:=Zet q3;have g4:=Zet q4;have k0:=Zet x0;have k1:=Zet x1;have k2:=Zet x2;have k3:=Zet x3;have k4:=Zet x4;refine ZeG 27 (by kernel_rfl) ?_;refine ZeB [0,1,2,3,4,5,6,7,8,9,10,11,12,14] (by kernel_rfl) (by kernel_rfl) ?_;simp only[ZeD,List.getElem?_cons_succ,List.getElem?_cons_zero,List.cons_append,List.nil_append]
     repeat (go_big_quiet_step (fail))
     refine wpQuiet_nil ?_;refine ZeX 13 (f:=41) (args:= #[.agg #[.int .i64 a,.int .i64 b,.int .i64 c,.int .i64 m,.slice base n cap]]) (v:= .int .i64 qm) (by kernel_rfl) rfl (by kernel_rfl) rfl (fun W=>by simp[go_sem,execOp,Act.eval]) (fun W hW=>Ui W (hE.trans hW)) ?_;go_simp;refine ZeX 15 (f:=41) (args:= #[.agg #[.int .i64 a,.int .i64 b,.int .i64 c,.int .i64 m,.slice mb n mc]]) (v:= .int .i64 qm) (by kernel_rfl) rfl (by kernel_rfl) rfl (fun W=>by simp[go_sem,execOp,Act.eval]) (fun W hW=>D7 mb mc W (hE.trans hW) (J4.ext hW)) ?_;go_simp;refine ZeB [16,17,18,19] (by kernel_rfl) (by kernel_rfl) ?_;simp only[ZeD,List.getElem?_cons_succ,List.getElem?_cons_zero,List.cons_append,List.nil_append]
     repeat (go_big_quiet_step (fail))
     refine wpQuiet_nil ?_;refine ZeX 20 (f:=41) (args:= #[.agg #[.int .i64 a,.int .i64 b,.int .i64 c,.int .i64 m,.slice base n cap]]) (v:= .int .i64 qm) (by kernel_rfl) rfl (by kernel_rfl) rfl (fun W=>by simp[go_sem,execOp,Act.eval]) (fun W hW=>Ui W (hE.trans hW)) ?_;go_simp;refine ZeB [21,22,23] (by kernel_rfl) (by kernel_rfl) ?_;simp only[ZeD,List.getElem?_cons_succ,List.getElem?_cons_zero,List.cons_append,List.nil_append]
     repeat (go_big_quiet_step (fail))
     refine wpQuiet_nil ?_;refine ZeX 24 (f:=22) (args:= #[]) (v:= .bool true) (by kernel_rfl) rfl (by kernel_rfl) rfl (fun W=>by simp[go_sem,execOp,Act.eval]) (fun W hW=>B9 W (hE.trans hW)) ?_;go_simp;refine ZeB [25,26] (by kernel_rfl) (by kernel_rfl) ?_;simp only[ZeD,List.getElem?_cons_succ,List.getElem?_cons_zero,List.cons_append,List.nil_append]
     repeat (go_big_quiet_step (fail))
     refine wpQuiet_nil ?_;refine Zf6 (by kernel_rfl) (fun W hW=> ?_);go_wp2;go_ret;exact rfl
    ·have D8:(i:Int)<(n:Int):=(by omega);have hm9:Int.tmod ((i:Int)+(B:Int)) (n:Int)=(((i+B) % n:Nat):Int):=(by rw[Int.tmod_eq_emod_of_nonneg (by omega)];push_cast;rfl);have hIr:=hI.ext hF;have U9:=fun W hW=>Zhj bl ln cl l (((i+B) % n:Nat):Int) W hl.out (by omega) (hIr.ext hW)
     obtain⟨hb,Yc⟩:∃z,z=decide ((((i+B) % n:Nat):Int)∈l):=⟨_,rfl⟩;rw[<-Yc] at U9;have HN:Hid (Zlo n B l (i+1)=if hb=true then Zlo n B l i++[(i:Int)] else Zlo n B l i):=by
      show _=_;rw[ZlL,Yc,List.contains_eq_mem]
     have R2:=ZlB n B l i;generalize ((i+B) % n:Nat)=J at hm9 U9;have Yd:N2<=wr.heap.size:=(by rw[hN2];exact hF.size);clear Yc;cases hb with
     |false=>
      go_wp2_with (go_at_call 39;refine(U9 _ (Ext.rfl' _)).mono ?_;rintro e w7 ⟨rfl,hG⟩)
      exact⟨⟨i+1,by omega,by push_cast;rfl,hF.trans hG,by rw[HN.out];exact hO.ext hG⟩,by simp[intOf];omega⟩
     |true=>
      go_wp2_with (first
       |(go_at_call 39;refine(U9 _ (Ext.rfl' _)).mono ?_;rintro e w7 ⟨rfl,hG⟩
         have hF7:=hF.trans hG;have hO7:=hO.ext hG;have hN7:=Nat.le_trans Yd hG.size)
       |(at_builtin
         refine wpList_plain rfl fun K hK=> ?_
         have hX:=(Ext.rfl' w7).alloc (.cells #[.int .i64 i] 3);refine Zhm _ _ rfl N2 _ (Zlo n B l i) rfl (hO7.ext hX) (some ⟨w7.heap.size,0,none⟩) 1 [(i:Int)] rfl (by intro h;cases h) (Z7I ((Z3 w7 (.cells #[.int .i64 i] 3) w7.heap.size).trans (if_pos rfl))) (by simp only[List.length_cons,List.length_nil];omega) (Nat.le_trans hN7 hX.size) (fun v6 W6 own6 hg6=>hK _ _ ?_);have Cc:Ext wo W6:=(hF7.trans hX).grown hg6 (fun k hk=>by have:=(hO7.lt k hk).1;omega)))
      exact⟨⟨i+1,by omega,by push_cast;rfl,Cc,by rw[HN.out];exact own6⟩,by simp[intOf];omega⟩
  ·have A3:i<n:=by omega
   have D8:(i:Int)<(n:Int):=by omega
   have hJ:(i+B) % L.length<L.length:=Nat.mod_lt _ (by have:=A2.out;omega);obtain⟨s,hs⟩:∃s,L[(i+B) % L.length]? =some s:=⟨_,List.getElem?_eq_getElem hJ⟩;have HN:Hid (ZU L B (i+1)=ZU L B i++[s]):=Zlw hs;have R2:(ZU L B i).length<=9:=by rw[(El _).1];omega
   have Ye:Hid (∀x∈ZU L B i++[s],x.nm.size<=maxLen):=by
    intro x hx;rcases List.mem_append.1 hx with hx|hx
    ·exact Jb.out x (ZlD x hx)
    ·cases List.mem_singleton.1 hx;exact Jb.out _ (List.mem_of_getElem? hs)
   obtain⟨bs,os,rfl,Dn,shx,_⟩:=hS.out _ s hs;rw[A2.out] at hJ shx;obtain⟨J,Yf⟩:∃J,J=(i+B) % n:=⟨_,rfl⟩;rw[<-Yf] at hJ shx;have hm9:Int.tmod ((i:Int)+(B:Int)) (n:Int)=(J:Int):=by rw[Yf,Int.tmod_eq_emod_of_nonneg (by omega)];push_cast;rfl
   have D4:¬N<=bs:=by omega
   clear hs Yf El;go_wp2_with fail;refine Zjj (ExtX fun q=>N<=q) 15 (by kernel_rfl) ?_;have hD:=(Ext.rfl' wr).drew;have Ji:=hE.trans hD;have P8:=hO.ext hD;have Ki:=hD.get D1;have Kj:=hD.get Ah;have z0:=Ji.cellS shx.k0;have z1:=Ji.cellS shx.k1;have z2:=Ji.cellS shx.k2;have z3:=Ji.cellS shx.k3;have z4:=Ji.cellS shx.k4;have z5:=Ji.cellS shx.k5;have z6:=Ji.cellS shx.k6;have Yg:N<=wr.drew.heap.size:=Nat.le_trans hNw hD.size;generalize wr.drew=Wd at Ji P8 Ki Kj z0 z1 z2 z3 z4 z5 z6 Yg⊢;clear hE hO D1 Ah hD shx;have y4:=Z0 Ki 4;have x4:=Z0 Kj 4;simp only[List.getElem?_toArray,List.getElem?_cons_zero,List.getElem?_cons_succ] at y4 x4;have gz0:=GrE.cell (X:=fun q=>N<=q) D4 z0;have gz1:=GrE.cell (X:=fun q=>N<=q) D4 z1;have gz2:=GrE.cell (X:=fun q=>N<=q) D4 z2;have gz3:=GrE.cell (X:=fun q=>N<=q) D4 z3;have gz4:=GrE.cell (X:=fun q=>N<=q) D4 z4;have gz5:=GrE.cell (X:=fun q=>N<=q) D4 z5;have gz6:=GrE.cell (X:=fun q=>N<=q) D4 z6;have gy:=GrE.cell (X:=fun q=>N<=q) Y8 y4;have gx:=GrE.cell (X:=fun q=>N<=q) Ya x4;refine Zjb (ExtX.pre _) [0,1,2,3,4,5,6,7,8,9,10,11] (by kernel_rfl) (by kernel_rfl) ?_;simp only[ZeD,List.getElem?_cons_succ,List.getElem?_cons_zero,List.cons_append,List.nil_append]
   repeat (go_big_quiet_step (fail))
   refine wpQuiet_nil ?_;refine Zj7 12 rfl (by kernel_rfl) rfl ?_;clear gz0 gz1 gz2 gz3 gz4 gz5 gz6 gy gx;refine Zf3 ⟨.slice (some ⟨Wd.heap.size,0,none⟩) 1 1,Wd.alloc (.cells #[.string s.nm,.int .i64 s.a0,.int .i64 s.a1,.int .i64 s.b0,.int .i64 s.b1,.int .i64 s.c0,.int .i64 s.c1] 51),by simp[go_sem,execOp,Act.eval],fun _=>Go.Nk.Ext.toX ((Ext.rfl' _).alloc _) _,?_⟩;have Hv:(Wd.alloc (.cells #[.string s.nm,.int .i64 s.a0,.int .i64 s.a1,.int .i64 s.b0,.int .i64 s.b1,.int .i64 s.c0,.int .i64 s.c1] 51)).heap[Wd.heap.size]? =some (.cells #[.string s.nm,.int .i64 s.a0,.int .i64 s.a1,.int .i64 s.b0,.int .i64 s.b1,.int .i64 s.c0,.int .i64 s.c1] 51):=by rw[Z3,if_pos rfl]
   have eA:=(Ext.rfl' Wd).alloc (.cells #[.string s.nm,.int .i64 s.a0,.int .i64 s.a1,.int .i64 s.b0,.int .i64 s.b1,.int .i64 s.c0,.int .i64 s.c1] 51);generalize Wd.alloc _=WA at Hv eA⊢;go_simp;refine Zj7 13 rfl (by kernel_rfl) rfl ?_;refine ZlM _ _ rfl N u (ZU L B i) rfl (P8.ext eA) ⟨Wd.heap.size,0,none⟩ 1 [s] rfl (by intro j v hj;have e5:ZkU [s]=[.string s.nm,.int .i64 s.a0,.int .i64 s.a1,.int .i64 s.b0,.int .i64 s.b1,.int .i64 s.c0,.int .i64 s.c1]:=rfl;rw[e5] at hj;rw[Z0c,Z0 Hv];simpa using hj) (by simp only[List.length_cons,List.length_nil];omega) (Nat.le_trans Yg eA.size) (fun v' W3 own3 Ua=>⟨fun _=>Zhv Ua (fun k hk=>(P8.lt k hk).1),?_⟩);obtain⟨g3,cp3,rfl,_⟩:=own3.form (by simp) Ye.out;have Bi:∀q,q<N->W3.heap[q]? =Wd.heap[q]? :=fun q hq=>(Ua.block q (by have:=eA.size;omega) (by intro e;have:=(P8.lt q e.symm).1;omega)).trans (eA.old q (by omega))
   have e3:Ext w W3:=(Ji.trans eA).grown Ua (fun k hk=>by have:=(P8.lt k hk).1;omega);have Sz:=(Bi w.heap.size (by omega)).trans Ki;have Kk:=(Bi ob (by omega)).trans Kj;clear Bi Ua Hv eA P8 Ki Kj z0 z1 z2 z3 z4 z5 z6 y4 x4 Ji Yg;have k4:=Z0 Kk 4;have f4:=Z8 Kk 4;simp only[List.getElem?_toArray,List.getElem?_cons_zero,List.getElem?_cons_succ] at k4;go_simp;refine Zjb (ExtX.pre _) [14] (by kernel_rfl) (by kernel_rfl) ?_;simp only[ZeD,List.getElem?_cons_succ,List.getElem?_cons_zero,List.cons_append,List.nil_append]
   repeat (go_big_quiet_step (fail))
   refine wpQuiet_nil ?_;refine Zj7 15 rfl (by kernel_rfl) rfl ?_;refine Zie ⟨W3.setCell ⟨ob,4,none⟩ (.slice (some ⟨g3,0,none⟩) (ZU L B i++[s]).length cp3),by simp[go_sem,execOp,Act.eval,k4,f4],fun h=>absurd h (by decide),?_⟩;have hO4:OwnA N (W3.setCell ⟨ob,4,none⟩ (.slice (some ⟨g3,0,none⟩) (ZU L B i++[s]).length cp3)) (.slice (some ⟨g3,0,none⟩) (ZU L B i++[s]).length cp3) (ZU L B i++[s]):=ZlN own3 (fun k hk=>set_ne (w:=W3) (a:=⟨ob,4,none⟩) (show k≠ob by have:=(own3.lt k hk).1;omega) (.slice (some ⟨g3,0,none⟩) (ZU L B i++[s]).length cp3));have T0:=Zb (i:=4) Kk (.slice (some ⟨g3,0,none⟩) (ZU L B i++[s]).length cp3);have T1:=(set_ne (w:=W3) (a:=⟨ob,4,none⟩) (show w.heap.size≠ob by omega) (.slice (some ⟨g3,0,none⟩) (ZU L B i++[s]).length cp3)).trans Sz;have e4:=e3.setCell ⟨ob,4,none⟩ (.slice (some ⟨g3,0,none⟩) (ZU L B i++[s]).length cp3) (show w.heap.size<=ob by omega);have Dx:N<=(W3.setCell ⟨ob,4,none⟩ (.slice (some ⟨g3,0,none⟩) (ZU L B i++[s]).length cp3)).heap.size:=by rw[(Go.Conc.aside_setCell _ _ _).size];have:=(own3.lt g3 rfl);omega
   clear Sz Kk e3 own3 k4 f4;generalize W3.setCell _ _=W4 at hO4 T0 T1 e4 Dx⊢;go_simp;refine Zjw (by kernel_rfl) ?_;go_wp2;exact⟨⟨i+1,_,by omega,by push_cast;rfl,e4,Dx,T1,T0,by rw[HN.out];exact hO4⟩,by simp[intOf];omega⟩
end Go.Proofs.Tryq
namespace Go.Proofs.Tryq
open Go Go.Nk Go.RowKit
set_option linter.all false
theorem Zlm(a b c m by8 bt:Int)(base:Option Addr)(n cap:Nat)(L:List Sf)(w:World)(A2:L.length=n)(Nj:0<=by8/\by8<256)(By:0<=bt/\bt<65536)(hM:Meas w)(D7:Most w)(hd:Deb w)(hS:RawA w base L):
 Calls prog 7 #[.agg #[.int .i64 a,.int .i64 b,.int .i64 c,.int .i64 m,.slice base n cap],.int .u8 by8,.int .u16 bt] w fun e w'=>e= .returned (.bool true):=by
 have J3:=fun W hW=>Zfd a b c m base n cap L W A2 (hS.ext hW)
 have B9:∀W,Ext w W->Calls prog 22 #[] W fun e w'=>e= .returned (.bool true)/\Ext W w':=fun W (hW:Ext w W)=>Zce W (hM.ext hW) (D7.ext hW) (hd.ext hW)
 cases hf:Zfc a b c m L with
 |false=>
  simp only[hf] at J3;exact ZlX a b c m by8 bt base n cap w J3 B9
 |true=>
  simp only[hf] at J3;have hs:Zp a b c m L=0:=by
   have:Z1B L=false/\Zp a b c m L=0:=by simpa[Zfc] using hf
   exact this.2
  have Be:=ZlF hs;have h9:=Be.len;by_cases Jr:n=0
  ·exact ZlY a b c m by8 bt base n cap w Jr J3 B9
  ·obtain⟨B,rfl⟩:=Int.eq_ofNat_of_zero_le Nj.1;have hp:0<L.length:=by omega
   have ht:=ZlP hp B;rw[A2] at ht;have hs':=ht.stock hs;have hl:=ZeY bt n;have hz:=Zew bt n;have N9:=ZeN bt n;have R0:Z1M a b c m (ZU L B n) (Zlo n B (ZeL bt n) n)=Z1M a b c m L (ZeL bt n):=by
    rw[Zeu hs (by rw[A2];exact hz),Zeu hs' (ZeE (Zlu _ _ _ _) fun x hx=>by have:=(ZlQ.1 hx);rw[ht.len,A2];exact⟨this.1,this.2.1⟩)];have:=ht.match (a:=a) (b:=b) (c:=c) hl.1 (fun i hi=>by rw[A2];exact hl.2 i hi);rw[A2] at this;exact this
   have E0:=ZlB n B (ZeL bt n) n;have hL':(ZU L B n).length=n:=ht.len.trans A2;have Jc:Zo a b c m L (ZeL bt n)=0:=by rw[Zo,A2,hz,hs];rfl
   have Gi:Zo a b c m (ZU L B n) (Zlo n B (ZeL bt n) n)=0:=by
    rw[Zo,hL',hs',ZeE (Zlu _ _ _ _) fun x hx=>by have:=(ZlQ.1 hx);exact⟨this.1,this.2.1⟩];rfl
   refine ZlR a b c m B bt base n cap w (by omega) (by omega) L A2 hS hS.size B rfl (by omega) (ZeL bt n) _ rfl (by omega) (Zlo n B (ZeL bt n) n) _ rfl rfl (by omega) (Z1M a b c m L (ZeL bt n)) (Z66 a b c m L).length J3 (fun W hW=> ?_) (fun bl cl W hW Fm hI=> ?_) (fun mb mc bl cl W hW hR Fm hI=> ?_) (fun W hW=> ?_) (fun mb mc W hW hR=> ?_) B9
   ·refine(ZeT a b c m bt base n cap W (by omega) By).mono ?_;rintro e w2 ⟨x,rfl,hx,hE⟩;obtain⟨bl,cl,rfl,hI,Fm⟩:=hx.rawI;exact⟨bl,cl,rfl,Fm,hI,hE⟩
   ·have:=Z5Y a b c m base n cap L bl (ZeL bt n).length cl (ZeL bt n) W A2 (by omega) rfl Fm (by omega) (hM.ext hW) (hS.ext hW) hI;rw[Jc] at this;exact this
   ·have:=Z5Y a b c m mb n mc (ZU L B n) bl (Zlo n B (ZeL bt n) n).length cl (Zlo n B (ZeL bt n) n) W hL' (by omega) rfl Fm (by omega) (hM.ext hW) hR hI;rw[Gi,R0] at this;exact this
   ·exact ZlC a b c m base n cap L W A2 (by omega) (hM.ext hW) (hS.ext hW) hs
   ·have:=ZlC a b c m mb n mc (ZU L B n) W hL' (by omega) (hM.ext hW) hR hs';rw[ht.many hs] at this;exact this
end Go.Proofs.Tryq
section
set_option maxRecDepth 100000
namespace Go.Proofs.YtedkbdkbbnemlaaGreatDoor
open Go
namespace JarrowAnyOrder
theorem k0:Rows.arrowAnyOrderRow.wf (OpenSpec.ofChange Rows.arrowAnyOrderSpec)=true:=by kernel_rfl
theorem k1:laidOutB Tryz.prog=true:=by kernel_rfl
theorem k2:mapsRowed Tryz.prog=true:=by kernel_rfl
theorem k3:Tryz.f7.params.all (Tryz.prog.readableRec ·)=true:=by kernel_rfl
theorem k4:namedTie Tryz.prog Rows.arrowAnyOrderRow.named Rows.arrowAnyOrderSpec.vars=true:=by kernel_rfl
theorem k5:(Rows.arrowAnyOrderRow.stops==[])=true:=by kernel_rfl
theorem k6:(Tryz.prog.stops==[])=true:=by kernel_rfl
theorem k7:(Rows.arrowAnyOrderRow.knobs==[])=true:=by kernel_rfl
theorem k8:(Tryz.prog.stopKnobs==[])=true:=by kernel_rfl
theorem k9:(Rows.arrowAnyOrderRow.inPlace==Tryz.prog.inPlace 7)=true:=by kernel_rfl
theorem k10:(Rows.arrowAnyOrderRow.unfollowed==Tryz.prog.unfollowed 7)=true:=by kernel_rfl
theorem k11:(Rows.arrowAnyOrderRow.recurses==Tryz.prog.recurses 7)=true:=by kernel_rfl
theorem k12:(Rows.arrowAnyOrderRow.named==Tryz.prog.varsNamed 7)=true:=by kernel_rfl
theorem k13:(Rows.arrowAnyOrderRow.maps==(Tryz.f7.params.toList++Rows.arrowAnyOrderSpec.plain.varTypes Tryz.prog).any (Tryz.prog.mapsRec ·))=true:=by kernel_rfl
theorem k14:(Rows.arrowAnyOrderRow.ifaces==(Tryz.f7.params.toList++Rows.arrowAnyOrderSpec.plain.varTypes Tryz.prog).any (Tryz.prog.ifacesRec ·))=true:=by kernel_rfl
theorem k15:(Rows.arrowAnyOrderRow.mapsOut==Tryz.prog.mapsAmong Tryz.f7.resultTypes.toList)=true:=by kernel_rfl
theorem k16:(Rows.arrowAnyOrderRow.loops==(Tryz.f7.params.toList++Rows.arrowAnyOrderSpec.plain.varTypes Tryz.prog).any (Tryz.prog.loopsFrom ·))=true:=by kernel_rfl
theorem k17:(Rows.arrowAnyOrderRow.wideKeys==(Tryz.f7.params.toList++Rows.arrowAnyOrderSpec.plain.varTypes Tryz.prog++Tryz.f7.resultTypes.toList).any (Tryz.prog.wideKeysFrom ·))=true:=by kernel_rfl
theorem k18:Rows.arrowAnyOrderSpec.vars.all (Tryz.prog.varReadable ·)=true:=by kernel_rfl
theorem k19:Tryz.f7.resultTypes.all (fun t=>Tryz.prog.readableRec t&&decide (t<Tryz.prog.types.size))=true:=by kernel_rfl
theorem k20:(Rows.arrowAnyOrderRow.ifacesOut==Tryz.f7.resultTypes.toList.any (Tryz.prog.ifacesRec ·))=true:=by kernel_rfl
theorem k21:(Rows.arrowAnyOrderRow.loopsOut==Tryz.f7.resultTypes.toList.any (Tryz.prog.loopsFrom ·))=true:=by kernel_rfl
theorem k22:(Rows.arrowAnyOrderRow.plainKeys==Tryz.prog.plainKeys)=true:=by kernel_rfl
theorem k23:Rows.arrowAnyOrderRow.shortTexts.isNone=true:=by kernel_rfl
theorem k24:Tryz.prog.stopsHeard=true:=by kernel_rfl
theorem k25:Tryz.prog.mayEnter=true:=by kernel_rfl
theorem k26:(Rows.arrowAnyOrderRow.lifted==Tryz.prog.liftsFinal)=true:=by kernel_rfl
theorem k27:(Tryz.prog.make==some Rows.arrowAnyOrderRow.make)=true:=by kernel_rfl
theorem k28:(Rows.arrowAnyOrderRow.kinds==(if Rows.arrowAnyOrderRow.domain.isEmpty then[] else Tryz.f7.params.toList.map fun t=>match Tryz.prog.underlying t with|some (.int k)=>some k|_=>none))=true:=by kernel_rfl
theorem k29:(Rows.arrowAnyOrderRow.pinned==Rows.arrowAnyOrderRow.pinnedBy)=true:=by kernel_rfl
theorem k30:(Rows.arrowAnyOrderRow.veiled==(Tryz.f7.params.toList++Rows.arrowAnyOrderSpec.plain.varTypes Tryz.prog++Tryz.f7.resultTypes.toList).any (Tryz.prog.veiledRec ·))=true:=by kernel_rfl
theorem k31:Rows.arrowAnyOrderRow.veiledFits Tryz.prog Tryz.f7.params.toList (Tryz.f7.params.toList++Rows.arrowAnyOrderSpec.plain.varTypes Tryz.prog++Tryz.f7.resultTypes.toList)=true:=by kernel_rfl
theorem ZI{a b:Bool}(ha:a=true)(hb:b=true):(a&&b)=true:=by rw[ha,hb];rfl
theorem facts:joinedFacts Tryz.prog 7 Tryz.f7 Rows.arrowAnyOrderSpec Rows.arrowAnyOrderRow=true:=(ZI (ZI (ZI (ZI (ZI (ZI (ZI (ZI (ZI (ZI (ZI (ZI (ZI (ZI (ZI (ZI (ZI (ZI (ZI (ZI (ZI (ZI (ZI (ZI (ZI (ZI (ZI (ZI (ZI (ZI (ZI k0 k1) k2) k3) k4) k5) k6) k7) k8) k9) k10) k11) k12) k13) k14) k15) k16) k17) k18) k19) k20) k21) k22) k23) k24) k25) k26) k27) k28) k29) k30) k31)
end JarrowAnyOrder
end Go.Proofs.YtedkbdkbbnemlaaGreatDoor
end
namespace Go.Proofs.Tryq
set_option maxRecDepth 100000
open Go Go.Nk Go.RowKit Go.ChangeShapes Go.WideShapes Go.ChangeAt Go.Conc Go.Deep
attribute [local instance] theBan
section
variable {H:Type} {enc:TypeId×Value->H} {W:World} {b0:Nat}
theorem Zf4{t:TypeId}{k:IntKind}(hu:Tryz.prog.underlying t=some (.int k))(hs:isS Tryz.prog t=false)(ha:isA Tryz.prog t=false)(hl:(Z3e Tryz.prog 0 t 0).any (fun y=>y.1==0&&y.2==t)=true)(Ec:Tryz.prog.cellsOf t=1){v:Value}{d:DataW H}{p:List MemPlace}(hv:Value.okWide Tryz.prog W .any b0 t v)(h:DataW.Trod enc Tryz.prog W 0 (fun _=>true) true t v d p):
 ∃n:Int,v= .int k n/\(Lit.int k n).wf=true/\VRel id (Nk.Live (Zx W)) v v:=by
 have hc:=Zei hv hs ha;obtain⟨fuel,hf⟩:=h;have e:v.cells.toList=[v]:=by
  cases v<;>first|rfl|skip
  rename_i cs;simp[Cell.okWide,Cell.ok,hu] at hc
 rw[e] at hf;have Af:[v].length<=Tryz.prog.cellsOf t:=by rw[Ec];exact Nat.le_refl _
 obtain⟨x1,e1,hw⟩:=Z0z (n:=0) (o:=0) (u:=t) Af ⟨_,_,hf⟩ hl hu;obtain rfl:v= .int k x1:=by simpa using e1
 exact⟨x1,rfl,hw,.int _ _⟩
theorem Zf7{n:Int}(h:(Lit.int .u16 n).wf=true):0<=n/\n<65536:=by
 have h1:IntKind.u16.min=0:=rfl;have h2:IntKind.u16.max=65535:=rfl;simp only[Lit.wf,Bool.and_eq_true,decide_eq_true_eq] at h;omega
theorem wf_u8{n:Int}(h:(Lit.int .u8 n).wf=true):0<=n/\n<256:=by
 have h1:IntKind.u8.min=0:=rfl;have h2:IntKind.u8.max=255:=rfl;simp only[Lit.wf,Bool.and_eq_true,decide_eq_true_eq] at h;omega
theorem under40:Tryz.prog.underlying 40=some (.int .u16):=by kernel_rfl
theorem ZeQ{v:Value}{d:DataW H}{p:List MemPlace}(hv:Value.okWide Tryz.prog W .any b0 40 v)(h:DataW.Trod enc Tryz.prog W 0 (fun _=>true) true 40 v d p):∃n:Int,v= .int .u16 n/\(Lit.int .u16 n).wf=true/\VRel id (Nk.Live (Zx W)) v v:=
 Zf4 under40 (by kernel_rfl) (by kernel_rfl) (by kernel_rfl) (by kernel_rfl) hv h
theorem ZfW{v:Value}{d:DataW H}{p:List MemPlace}(hv:Value.okWide Tryz.prog W .any b0 5 v)(h:DataW.Trod enc Tryz.prog W 0 (fun _=>true) true 5 v d p):∃n:Int,v= .int .u8 n/\(Lit.int .u8 n).wf=true/\VRel id (Nk.Live (Zx W)) v v:=
 Zf4 under5 (by kernel_rfl) (by kernel_rfl) (by kernel_rfl) (by kernel_rfl) hv h
end
end Go.Proofs.Tryq
namespace Go.Proofs.YtedkbdkbbnemlaaGreatDoor
set_option maxRecDepth 100000
open Go Go.Nk Go.RowKit Go.ChangeShapes Go.WideShapes Go.ChangeAt Go.Conc
open Go.Proofs.Tryq
attribute [local instance] theBan
theorem Zlh(os:Os)(started:os.Started)(H:Type)(enc:TypeId×Value->H):
 ReturnsInLeavingWide {} Tryz.checked os 7 .any (fun w args=>(Rows.arrowAnyOrderSpec.pre enc Tryz.prog Tryz.f7 [] false w args/\laidMetH Tryz.prog laidL w)/\sizedMet enc Tryz.prog Tryz.f7 (OpenSpec.ofChange Rows.arrowAnyOrderSpec) false w args)
  (Rows.arrowAnyOrderSpec.post enc Tryz.prog Tryz.f7 false true false false):=by
 refine Z4e (n:=3) (ts:=[26,5,40]) started (by simp[keptList]) Tryz.func7 same7 (by kernel_rfl) Tryz.results7 (by kernel_rfl) (by rw[Tryz.params7]) rfl rfl (by kernel_rfl) (fun ds hd=>by
  match ds,hd with
  |[_,_,_],_=>rfl) (by kernel_rfl)
  (ChangeSpec.witness_shaped (enc:=enc) (C:=Tryz.checked) (os:=os) (X:=fun w _=>laidMetH Tryz.prog laidL w) false (World.doorLaid Tryz.prog 400 os) #[.agg #[.int .i64 0,.int .i64 0,.int .i64 0,.int .i64 0,.slice none 0 0],.int .u8 0,.int .u16 0] 8 rfl (Z3F os _) (by kernel_rfl) (by kernel_rfl) (by kernel_rfl) (Z7C os _)) ?_
 intro W base args ds p Fl hA hM D7 hd;rw[Tryz.params7] at Fl;obtain⟨v0,v1,v2,dx0,dx1,dx2,px0,px1,px2,rfl,rfl,rfl,h0,h1,h2⟩:=trodAll_three hA;obtain⟨a0,b0,c0,d0,ab0,n0,k0,S0,rfl,hL0,Jr,Ct,Fi,H9,M0⟩:=Z4c (Fl 0 26 v0 rfl rfl) h0;obtain⟨u1,rfl,Kz,E8⟩:=ZfW (Fl 1 5 v1 rfl rfl) h1;obtain⟨u2,rfl,Ej,Du⟩:=ZeQ (Fl 2 40 v2 rfl rfl) h2;refine⟨((AR.nil.push Fi).push E8).push Du,fun t=> ?_⟩;exact Zlm a0 b0 c0 d0 u1 u2 ab0 n0 k0 S0 (retape t (Zx W)) hL0 (wf_u8 Kz) (Zf7 Ej) hM (Za7 t D7) hd (Za8 t (Z5T H9))
theorem arrowAnyOrder_row:Rows.ArrowAnyOrderSaid:=
 OpenClaim.holds_of_wide_leaving 7 Tryz.f7 rfl rfl rfl rfl rfl rfl rfl ⟨rfl,rfl,rfl,rfl,rfl⟩ rfl rfl rfl rfl rfl (by kernel_rfl) Tryz.func7 JarrowAnyOrder.facts
  (of_decide_eq_true (by kernel_rfl)) (by unfold Func.isWrapper;first|(rw[if_pos (by decide+kernel)];kernel_rfl)|(rw[if_neg (by decide+kernel)];exact⟨rfl,rfl⟩))
  (fun os started H enc _=>Zlh os started H enc)
theorem arrowAnyOrder_card:Rows.ArrowAnyOrderCardSaid:=
 Zac .later [.data,.data,.data,.funcs] true (true,"0e1059176c690520e63ed0d32383d6ff1680ebd08dcb3a61820afc84c46f7b58") false
  arrowAnyOrder_row (by kernel_rfl) arrowAnyOrder_row_tie rfl ⟨rfl,rfl⟩ (by kernel_rfl) rfl
  (fun f fn hf hfn=>by
    obtain rfl:f=7:=Option.some.inj ((show Tryz.prog.funcNamed "nock/nocklaw01.ArrowAnyOrder" =some 7 by kernel_rfl).symm.trans hf) |>.symm
    obtain rfl:fn=Tryz.f7:=(Option.some.inj (Tryz.func7.symm.trans hfn)).symm
    exact⟨by kernel_rfl,fun j t ht=>by
     rw[Tryz.params7] at ht;have hm:t∈[26,5,40]:=(by simpa using Array.mem_of_getElem? ht);have Ag:([26,5,40].all fun u=> !Tryz.prog.wantsStandIn u)=true:=(by kernel_rfl);exact(show Tryz.prog.wantsStandIn t=false by simpa using List.all_eq_true.1 Ag t hm)⟩)
  (by kernel_rfl)
end Go.Proofs.YtedkbdkbbnemlaaGreatDoor
