import Derived.Test.YtedkbdkbbnemlaaGreatDoorNkA
import Derived.Test.YtedkbdkbbnemlaaGreatDoorNk30
import Derived.Carry
import Derived.Deep.DeepCutAuto
import Derived.JoinedOf
import Derived.KernelRfl
import Derived.Test.YtedkbdkbbnemlaaGreatDoorRows
set_option linter.all false
namespace Go.Proofs.Tryq
set_option maxRecDepth 100000
set_option maxHeartbeats 8000000
open Go Go.Nk Go.RowKit
set_option linter.all false
theorem Znm(a b c m sh8 wh8 p q:Int)(x:Sf)(base:Option Addr)(n cap:Nat)(w:World)
 (Gq:∀W,Ext w W->Calls prog 30 #[.agg #[.int .i64 a,.int .i64 b,.int .i64 c,.int .i64 m,.slice base n cap]] W fun e w'=>e= .returned (.bool false)/\Ext W w')
 (B9:∀W,Ext w W->Calls prog 22 #[] W fun e w'=>e= .returned (.bool true)/\Ext W w'):
 Calls prog 18 #[.agg #[.int .i64 a,.int .i64 b,.int .i64 c,.int .i64 m,.slice base n cap],.agg #[.string x.nm,.int .i64 x.a0,.int .i64 x.a1,.int .i64 x.b0,.int .i64 x.b1,.int .i64 x.c0,.int .i64 x.c1],.int .u8 sh8,.int .u8 wh8,.agg #[.int .i64 p,.int .i64 q]] w fun e w'=>e= .returned (.bool true):=by
 skip
 obtain⟨Bi,Ek,B3,Bz⟩:=Zlg w (.cells #[.int .i64 a,.int .i64 b,.int .i64 c,.int .i64 m,.slice base n cap] 26) (.cells #[.string x.nm,.int .i64 x.a0,.int .i64 x.a1,.int .i64 x.b0,.int .i64 x.b1,.int .i64 x.c0,.int .i64 x.c1] 51) (.cells #[.int .i64 p,.int .i64 q] 48);go_enter func18,ntmps18
 go_wp2_with (first
  |(go_at_call 30;refine(Gq _ Bi).mono ?_;rintro e w2 ⟨rfl,hF⟩
    have hE:=Bi.trans hF;have hr:=hF.get Ek;have hx:=hF.get B3;have hp:=hF.get Bz;have x0:=Z0 hx 0;simp only[YC,YA] at x0;clear hF;obtain⟨q0,q1,q2,q3,q4⟩:=Zgj hr)
  |(go_at_call 22;refine(B9 _ hE).mono ?_;rintro e w9 ⟨rfl,Vv⟩))
 go_ret;exact rfl
theorem Znn(a b c m sh8 wh8 p q:Int)(x:Sf)(base:Option Addr)(n cap:Nat)(w:World)(hn:n=0)
 (Gq:∀W,Ext w W->Calls prog 30 #[.agg #[.int .i64 a,.int .i64 b,.int .i64 c,.int .i64 m,.slice base n cap]] W fun e w'=>e= .returned (.bool true)/\Ext W w')
 (B9:∀W,Ext w W->Calls prog 22 #[] W fun e w'=>e= .returned (.bool true)/\Ext W w'):
 Calls prog 18 #[.agg #[.int .i64 a,.int .i64 b,.int .i64 c,.int .i64 m,.slice base n cap],.agg #[.string x.nm,.int .i64 x.a0,.int .i64 x.a1,.int .i64 x.b0,.int .i64 x.b1,.int .i64 x.c0,.int .i64 x.c1],.int .u8 sh8,.int .u8 wh8,.agg #[.int .i64 p,.int .i64 q]] w fun e w'=>e= .returned (.bool true):=by
 subst hn;obtain⟨Bi,Ek,B3,Bz⟩:=Zlg w (.cells #[.int .i64 a,.int .i64 b,.int .i64 c,.int .i64 m,.slice base 0 cap] 26) (.cells #[.string x.nm,.int .i64 x.a0,.int .i64 x.a1,.int .i64 x.b0,.int .i64 x.b1,.int .i64 x.c0,.int .i64 x.c1] 51) (.cells #[.int .i64 p,.int .i64 q] 48);go_enter func18,ntmps18
 go_wp2_with (first
  |(go_at_call 30;refine(Gq _ Bi).mono ?_;rintro e w2 ⟨rfl,hF⟩
    have hE:=Bi.trans hF;have hr:=hF.get Ek;have hx:=hF.get B3;have hp:=hF.get Bz;have x0:=Z0 hx 0;simp only[YC,YA] at x0;clear hF;obtain⟨q0,q1,q2,q3,q4⟩:=Zgj hr)
  |(go_at_call 22;refine(B9 _ hE).mono ?_;rintro e w9 ⟨rfl,Vv⟩))
 go_ret;exact rfl
theorem Zno(a b c m sh8 wh8 p q:Int)(x:Sf)(base:Option Addr)(n cap:Nat)(w:World)(hn:1<=n)(hz:100<x.nm.size)
 (Gq:∀W,Ext w W->Calls prog 30 #[.agg #[.int .i64 a,.int .i64 b,.int .i64 c,.int .i64 m,.slice base n cap]] W fun e w'=>e= .returned (.bool true)/\Ext W w')
 (B9:∀W,Ext w W->Calls prog 22 #[] W fun e w'=>e= .returned (.bool true)/\Ext W w'):
 Calls prog 18 #[.agg #[.int .i64 a,.int .i64 b,.int .i64 c,.int .i64 m,.slice base n cap],.agg #[.string x.nm,.int .i64 x.a0,.int .i64 x.a1,.int .i64 x.b0,.int .i64 x.b1,.int .i64 x.c0,.int .i64 x.c1],.int .u8 sh8,.int .u8 wh8,.agg #[.int .i64 p,.int .i64 q]] w fun e w'=>e= .returned (.bool true):=by
 have Gu:((n:Int)==0)=false:=beq_eq_false_iff_ne.2 (by omega);have hnz:¬n=0:=by omega
 obtain⟨Bi,Ek,B3,Bz⟩:=Zlg w (.cells #[.int .i64 a,.int .i64 b,.int .i64 c,.int .i64 m,.slice base n cap] 26) (.cells #[.string x.nm,.int .i64 x.a0,.int .i64 x.a1,.int .i64 x.b0,.int .i64 x.b1,.int .i64 x.c0,.int .i64 x.c1] 51) (.cells #[.int .i64 p,.int .i64 q] 48);go_enter func18,ntmps18
 go_wp2_with (first
  |(go_at_call 30;refine(Gq _ Bi).mono ?_;rintro e w2 ⟨rfl,hF⟩
    have hE:=Bi.trans hF;have hr:=hF.get Ek;have hx:=hF.get B3;have hp:=hF.get Bz;have x0:=Z0 hx 0;simp only[YC,YA] at x0;clear hF;obtain⟨q0,q1,q2,q3,q4⟩:=Zgj hr)
  |(go_at_call 22;refine(B9 _ hE).mono ?_;rintro e w9 ⟨rfl,Vv⟩))
 go_ret;exact rfl
theorem Zni(a b c m sh8 wh8 p q:Int)(x:Sf)(bs off n cap:Nat)(w:World)(D5:bs<w.heap.size)(Ur:1<=n)(Lz:n<=9)(N8:x.nm.size<=100)(L:List Sf)(A3:Hid (L.length=n))(hS:Hid (RawA w (some ⟨bs,off,none⟩) L))(K V:Nat)(hKn:K<n)(hK:Int.tmod sh8 (n:Int)=(K:Int))(hV:Int.tmod wh8 3=(V:Int))(Wx:V<3)(Lh:0<=sh8/\sh8<256)(hw8:0<=wh8/\wh8<256)(qn:Nat)(Mg:qn<=9)(nw:Int)(T:List Int)(tn:Nat)(hb:Bool)(fn:Nat)(hfn:fn+1=n)(hcn:n<=cap)(Ui:Hid ((ZmY L K).length=fn))(A2 C2:Int)(Vh:Hid ((if wrap64 (a+wh8)<9999 then wrap64 (a+wh8) else 9999)=A2))(hC2:Hid ((if wrap64 (c+sh8)<9999 then wrap64 (c+sh8) else 9999)=C2))(qw qm qo:Nat)(hqw:qn<=qw)(hqm:qn<=qm)(hqo:qn<=qo)(f26 f73:Int)(L1:List Sf)(Ur:nw<=qn)(Q5:(qn:Int) - 1<=nw)(hbq:Hid (hb=true->nw=qn))
 (Gq:∀W,Ext w W->Calls prog 30 #[.agg #[.int .i64 a,.int .i64 b,.int .i64 c,.int .i64 m,.slice (some ⟨bs,off,none⟩) n cap]] W fun e w'=>e= .returned (.bool true)/\Ext W w')
 (h41:∀W,Ext w W->Calls prog 41 #[.agg #[.int .i64 a,.int .i64 b,.int .i64 c,.int .i64 m,.slice (some ⟨bs,off,none⟩) n cap]] W fun e w'=>e= .returned (.int .i64 qn)/\Ext W w')
 (h37:∀W,Ext w W->Calls prog 37 #[.agg #[.int .i64 a,.int .i64 b,.int .i64 c,.int .i64 m,.slice (some ⟨bs,off,none⟩) n cap]] W fun e w'=>∃ao cp bl cl,e= .returned (.tuple #[.slice ao qn cp,.slice bl tn cl,.int .i64 0])/\RawI w' bl T/\Ext W w')
 (h59:∀W,Ext w W->Calls prog 59 #[.agg #[.int .i64 a,.int .i64 b,.int .i64 c,.int .i64 m,.slice (some ⟨bs,off,none⟩) n cap],.int .i64 K] W fun e w'=>e= .returned (.tuple #[.int .i64 nw,.int .i64 0])/\Ext W w')
 (h39:∀bl cl W,RawI W bl T->Calls prog 39 #[.slice bl tn cl,.int .i64 K] W fun e w'=>e= .returned (.bool hb)/\Ext W w')
 (hmf:∀ao cp W,Ext w W->RawA W ao (ZmY L K)->Calls prog 41 #[.agg #[.int .i64 a,.int .i64 b,.int .i64 c,.int .i64 m,.slice ao fn cp]] W fun e w'=>e= .returned (.int .i64 nw)/\Ext W w')
 (Rn:∀W,Ext w W->Calls prog 41 #[.agg #[.int .i64 A2,.int .i64 b,.int .i64 C2,.int .i64 m,.slice (some ⟨bs,off,none⟩) n cap]] W fun e w'=>e= .returned (.int .i64 qw)/\Ext W w')
 (Ad:∀ao cp W,Ext w W->RawA W ao (L++[x])->Calls prog 26 #[.agg #[.int .i64 a,.int .i64 b,.int .i64 c,.int .i64 m,.slice ao (n+1) cp]] W fun e w'=>e= .returned (.int .i64 f26)/\Ext W w')
 (Hf:Hid (f26=0->∀ao cp W,Ext w W->RawA W ao (L++[x])->Calls prog 41 #[.agg #[.int .i64 a,.int .i64 b,.int .i64 c,.int .i64 m,.slice ao (n+1) cp]] W fun e w'=>e= .returned (.int .i64 qm)/\Ext W w'))
 (P3:∀W,Ext w W->Calls prog 73 #[.agg #[.int .i64 a,.int .i64 b,.int .i64 c,.int .i64 m,.slice (some ⟨bs,off,none⟩) n cap],.int .i64 K,.int .i64 V,.agg #[.int .i64 p,.int .i64 q]] W fun e w'=>∃(a' b' c' m':Int)(ao:Option Addr)(n' cp':Nat),e= .returned (.tuple #[.agg #[.int .i64 a',.int .i64 b',.int .i64 c',.int .i64 m',.slice ao n' cp'],.int .i64 f73])/\Ext W w'/\Hid (f73=0->a=a'/\b=b'/\c=c'/\m=m'/\n=n'/\RawA w' ao L1))
 (D6:∀ao cp W,Ext w W->RawA W ao L1->Calls prog 41 #[.agg #[.int .i64 a,.int .i64 b,.int .i64 c,.int .i64 m,.slice ao n cp]] W fun e w'=>e= .returned (.int .i64 qo)/\Ext W w')
 (B9:∀W,Ext w W->Calls prog 22 #[] W fun e w'=>e= .returned (.bool true)/\Ext W w'):
 Calls prog 18 #[.agg #[.int .i64 a,.int .i64 b,.int .i64 c,.int .i64 m,.slice (some ⟨bs,off,none⟩) n cap],.agg #[.string x.nm,.int .i64 x.a0,.int .i64 x.a1,.int .i64 x.b0,.int .i64 x.b1,.int .i64 x.c0,.int .i64 x.c1],.int .u8 sh8,.int .u8 wh8,.agg #[.int .i64 p,.int .i64 q]] w fun e w'=>e= .returned (.bool true):=by
 have Gu:((n:Int)==0)=false:=beq_eq_false_iff_ne.2 (by omega);have hnz:¬n=0:=by omega
 have hxz:¬100<x.nm.size:=by omega
 obtain⟨Bi,Ek,B3,Bz⟩:=Zlg w (.cells #[.int .i64 a,.int .i64 b,.int .i64 c,.int .i64 m,.slice (some ⟨bs,off,none⟩) n cap] 26) (.cells #[.string x.nm,.int .i64 x.a0,.int .i64 x.a1,.int .i64 x.b0,.int .i64 x.b1,.int .i64 x.c0,.int .i64 x.c1] 51) (.cells #[.int .i64 p,.int .i64 q] 48);go_enter func18,ntmps18
 go_wp2_with (first
  |(go_at_call 30;refine(Gq _ Bi).mono ?_;rintro e w2 ⟨rfl,hF⟩
    have hE:=Bi.trans hF;have hr:=hF.get Ek;have hx:=hF.get B3;have hp:=hF.get Bz;have x0:=Z0 hx 0;simp only[YC,YA] at x0;clear hF;obtain⟨q0,q1,q2,q3,q4⟩:=Zgj hr))
 clear Bi Ek B3 Bz Gu;have g0:=Zet q0;have g1:=Zet q1;have g2:=Zet q2;have g3:=Zet q3;have g4:=Zet q4;refine ZeG 10 (by kernel_rfl) ?_;refine ZeB [0,2,3,4,5,6,7] (by kernel_rfl) (by kernel_rfl) ?_;simp only[ZeD,YB,YA,YK,YJ]
 repeat (go_big_quiet_step (fail))
 refine wpQuiet_nil ?_;refine ZeX 1 (f:=41) (args:= #[.agg #[.int .i64 a,.int .i64 b,.int .i64 c,.int .i64 m,.slice (some ⟨bs,off,none⟩) n cap]]) (v:= .int .i64 qn) (by kernel_rfl) rfl (by kernel_rfl) rfl (fun W=>by simp[go_sem,execOp,Act.eval]) (fun W hW=>h41 W (hE.trans hW)) ?_;go_simp;refine ZeB [8,9] (by kernel_rfl) (by kernel_rfl) ?_;simp only[ZeD,YB,YA,YK,YJ]
 repeat (go_big_quiet_step (fail))
 refine wpQuiet_nil ?_;refine Zf6 (by kernel_rfl) (fun W hW=> ?_);replace hE:=hE.trans hW;replace hr:=hW.get hr;replace hx:=hW.get hx;replace hp:=hW.get hp;clear hW x0 q0 q1 q2 q3 q4 g0 g1 g2 g3 g4;obtain⟨q0,q1,q2,q3,q4⟩:=Zgj hr
 go_upto_region 6 with(first
  |(go_at_call 37;refine(h37 _ hE).mono ?_;rintro e w3 ⟨ao,cp,bl,cl,rfl,hI,hF⟩
    replace hE:=hE.trans hF;replace hr:=hF.get hr;replace hx:=hF.get hx;replace hp:=hF.get hp;clear hF q0 q1 q2 q3 q4;obtain⟨q0,q1,q2,q3,q4⟩:=Zgj hr)
  |(go_at_call 59;refine(h59 _ hE).mono ?_;rintro e w4 ⟨rfl,hF⟩
    replace hI:=hI.ext hF;replace hE:=hE.trans hF;replace hr:=hF.get hr;replace hx:=hF.get hx;replace hp:=hF.get hp;clear hF q0 q1 q2 q3 q4;obtain⟨q0,q1,q2,q3,q4⟩:=Zgj hr))
 go_cut [88] (fun s88 wd=>s88= .bool false/\Ext w wd/\wd.heap[w.heap.size]? =some (.cells #[.int .i64 a,.int .i64 b,.int .i64 c,.int .i64 m,.slice (some ⟨bs,off,none⟩) n cap] 26)/\wd.heap[w.heap.size+1]? =some (.cells #[.string x.nm,.int .i64 x.a0,.int .i64 x.a1,.int .i64 x.b0,.int .i64 x.b1,.int .i64 x.c0,.int .i64 x.c1] 51)/\wd.heap[w.heap.size+1+1]? =some (.cells #[.int .i64 p,.int .i64 q] 48))
 case first=>
  have hqn:¬(qn:Int)<0:=by omega
  have h1:¬(qn:Int)<nw:=by omega
  have h2:¬nw<(qn:Int) - 1:=by omega
  have O3:wrap64 ((qn:Int) - 1)=(qn:Int) - 1:=Z6a _ (by omega);cases hb with
  |true=>
   obtain rfl:=hbq.out rfl
   go_wp2_with (first
    |(go_at_call 39;refine(h39 _ _ _ hI).mono ?_;rintro e w5 ⟨rfl,hF⟩
      replace hE:=hE.trans hF;replace hr:=hF.get hr;replace hx:=hF.get hx;replace hp:=hF.get hp;clear hF q0 q1 q2 q3 q4;obtain⟨q0,q1,q2,q3,q4⟩:=Zgj hr))
   go_meet
   exact⟨rfl,hE,hr,hx,hp⟩
  |false=>
   go_wp2_with (first
    |(go_at_call 39;refine(h39 _ _ _ hI).mono ?_;rintro e w5 ⟨rfl,hF⟩
      replace hE:=hE.trans hF;replace hr:=hF.get hr;replace hx:=hF.get hx;replace hp:=hF.get hp;clear hF q0 q1 q2 q3 q4;obtain⟨q0,q1,q2,q3,q4⟩:=Zgj hr))
   go_meet
   exact⟨rfl,hE,hr,hx,hp⟩
 case rest=>
  obtain⟨rfl,C4,K4,hxc,Ql⟩:=hcut;clear hE hr hx hp hI Gq h37 h59 h39 h41 hbq;obtain⟨w8,rfl⟩:∃W:World,W=wc:=⟨_,rfl⟩
  go_upto_region 8 with fail
  obtain⟨q0,q1,q2,q3,q4⟩:=Zgj K4
  go_cut [18,19,20] (fun s18 s19 s20 wd=>∃b18 b19 b20:Nat,s18= .pointer (some ⟨b18,0,none⟩)/\s19= .pointer (some ⟨b19,0,none⟩)/\s20= .pointer (some ⟨b20,0,none⟩)/\b18≠b19/\b18≠b20/\b19≠b20/\w8.heap.size<=b18/\w8.heap.size<=b19/\w8.heap.size<=b20/\wd.heap[b18]? =some (.cells #[.int .i64 a,.int .i64 b,.int .i64 c,.int .i64 m,.slice (some ⟨bs,off,none⟩) n cap] 26)/\wd.heap[b19]? =some (.cells #[.int .i64 a,.int .i64 b,.int .i64 c,.int .i64 m,.slice (some ⟨bs,off,none⟩) n cap] 26)/\wd.heap[b20]? =some (.cells #[.int .i64 a,.int .i64 b,.int .i64 c,.int .i64 m,.slice (some ⟨bs,off,none⟩) n cap] 26)/\Ext w8 wd)
  case first=>
   have g0:=Zet q0;have g1:=Zet q1;have g2:=Zet q2;have g3:=Zet q3;have g4:=Zet q4;obtain⟨N,hN⟩:∃N,N=w8.heap.size:=⟨_,rfl⟩;have Ln:¬N<=w.heap.size:=by have:=Z5 K4;omega
   clear g0 g1 g2 g3 g4;refine Zhk (ExtX fun q=>N<=q) (by kernel_rfl) ?_;have hD:=(Ext.rfl' w8).drew;have Ia:=hD.get K4;have Qm:N<=w8.drew.heap.size:=by rw[hN];exact hD.size
   clear hN q0 q1 q2 q3 q4;generalize w8.drew=Wd at hD Ia Qm⊢;obtain⟨q0,q1,q2,q3,q4⟩:=Zgj Ia;have g0:=GrE.cell (X:=fun q=>N<=q) Ln q0;have g1:=GrE.cell (X:=fun q=>N<=q) Ln q1;have g2:=GrE.cell (X:=fun q=>N<=q) Ln q2;have g3:=GrE.cell (X:=fun q=>N<=q) Ln q3;have g4:=GrE.cell (X:=fun q=>N<=q) Ln q4;refine Zh8 (ExtX.pre _) [0,1,2] (by kernel_rfl) (by kernel_rfl) ?_;simp only[ZeD,YB,YA,YK,YJ]
   repeat (go_big_quiet_step (fail))
   refine wpQuiet_nil ?_;refine Zn2 3 4 5 18 19 20 (.cells #[.int .i64 0,.int .i64 0,.int .i64 0,.int .i64 0,.slice none 0 0] 26) rfl rfl rfl rfl rfl rfl (by decide) (by decide) (by decide) (by kernel_rfl) (fun _=>rfl) (fun _=>rfl) (fun _=>rfl) (fun a W=>by simp[go_sem,execOp,Act.eval]) (fun a W=>by simp[go_sem,execOp,Act.eval]) (fun a W=>by simp[go_sem,execOp,Act.eval]) (fun W b18 b19 b20 e0 n1 n2 n3 l18 l19 l20 Gt Fe Dw=> ?_);go_simp;clear g0 g1 g2 g3 g4 q0 q1 q2 q3 q4;have nb18:N<=b18:=by omega
   have nb19:N<=b19:=by omega
   have nb20:N<=b20:=by omega
   obtain⟨k0,k1,k2,k3,k4⟩:=Zgj Gt;obtain⟨f0,f1,f2,f3,f4⟩:=ZiJ Gt;refine Zh4 6 rfl (by kernel_rfl) rfl (Zie ⟨put5 W b18 (.int .i64 a) (.int .i64 b) (.int .i64 c) (.int .i64 m) (.slice (some ⟨bs,off,none⟩) n cap),by simp[go_sem,execOp,Act.eval,put5,k0,k1,k2,k3,k4,f0,f1,f2,f3,f4],ExtX.put5 _ nb18 _ _ _ _ _,?_⟩);clear k0 k1 k2 k3 k4 f0 f1 f2 f3 f4;replace Gt:=ZiD Gt (.int .i64 a) (.int .i64 b) (.int .i64 c) (.int .i64 m) (.slice (some ⟨bs,off,none⟩) n cap);replace Fe:=(ZiG W (b:=b18) (show b19≠b18 by omega) (.int .i64 a) (.int .i64 b) (.int .i64 c) (.int .i64 m) (.slice (some ⟨bs,off,none⟩) n cap)).trans Fe;replace Dw:=(ZiG W (b:=b18) (show b20≠b18 by omega) (.int .i64 a) (.int .i64 b) (.int .i64 c) (.int .i64 m) (.slice (some ⟨bs,off,none⟩) n cap)).trans Dw;replace e0:=ZiE e0 l18 (.int .i64 a) (.int .i64 b) (.int .i64 c) (.int .i64 m) (.slice (some ⟨bs,off,none⟩) n cap);generalize put5 W b18 _ _ _ _ _=W' at Gt Fe Dw e0⊢;clear W;obtain⟨W,rfl⟩:∃W:World,W=W':=⟨_,rfl⟩;go_simp;obtain⟨k0,k1,k2,k3,k4⟩:=Zgj Fe;obtain⟨f0,f1,f2,f3,f4⟩:=ZiJ Fe;refine Zh4 7 rfl (by kernel_rfl) rfl (Zie ⟨put5 W b19 (.int .i64 a) (.int .i64 b) (.int .i64 c) (.int .i64 m) (.slice (some ⟨bs,off,none⟩) n cap),by simp[go_sem,execOp,Act.eval,put5,k0,k1,k2,k3,k4,f0,f1,f2,f3,f4],ExtX.put5 _ nb19 _ _ _ _ _,?_⟩)
   clear k0 k1 k2 k3 k4 f0 f1 f2 f3 f4;replace Fe:=ZiD Fe (.int .i64 a) (.int .i64 b) (.int .i64 c) (.int .i64 m) (.slice (some ⟨bs,off,none⟩) n cap);replace Gt:=(ZiG W (b:=b19) (show b18≠b19 by omega) (.int .i64 a) (.int .i64 b) (.int .i64 c) (.int .i64 m) (.slice (some ⟨bs,off,none⟩) n cap)).trans Gt;replace Dw:=(ZiG W (b:=b19) (show b20≠b19 by omega) (.int .i64 a) (.int .i64 b) (.int .i64 c) (.int .i64 m) (.slice (some ⟨bs,off,none⟩) n cap)).trans Dw;replace e0:=ZiE e0 l19 (.int .i64 a) (.int .i64 b) (.int .i64 c) (.int .i64 m) (.slice (some ⟨bs,off,none⟩) n cap);generalize put5 W b19 _ _ _ _ _=W' at Gt Fe Dw e0⊢;clear W;obtain⟨W,rfl⟩:∃W:World,W=W':=⟨_,rfl⟩;go_simp;obtain⟨k0,k1,k2,k3,k4⟩:=Zgj Dw;obtain⟨f0,f1,f2,f3,f4⟩:=ZiJ Dw;refine Zh4 8 rfl (by kernel_rfl) rfl (Zie ⟨put5 W b20 (.int .i64 a) (.int .i64 b) (.int .i64 c) (.int .i64 m) (.slice (some ⟨bs,off,none⟩) n cap),by simp[go_sem,execOp,Act.eval,put5,k0,k1,k2,k3,k4,f0,f1,f2,f3,f4],ExtX.put5 _ nb20 _ _ _ _ _,?_⟩);clear k0 k1 k2 k3 k4 f0 f1 f2 f3 f4;replace Dw:=ZiD Dw (.int .i64 a) (.int .i64 b) (.int .i64 c) (.int .i64 m) (.slice (some ⟨bs,off,none⟩) n cap);replace Gt:=(ZiG W (b:=b20) (show b18≠b20 by omega) (.int .i64 a) (.int .i64 b) (.int .i64 c) (.int .i64 m) (.slice (some ⟨bs,off,none⟩) n cap)).trans Gt
   replace Fe:=(ZiG W (b:=b20) (show b19≠b20 by omega) (.int .i64 a) (.int .i64 b) (.int .i64 c) (.int .i64 m) (.slice (some ⟨bs,off,none⟩) n cap)).trans Fe;replace e0:=ZiE e0 l20 (.int .i64 a) (.int .i64 b) (.int .i64 c) (.int .i64 m) (.slice (some ⟨bs,off,none⟩) n cap);generalize put5 W b20 _ _ _ _ _=W' at Gt Fe Dw e0⊢;clear W;obtain⟨W,rfl⟩:∃W:World,W=W':=⟨_,rfl⟩;go_simp;refine ZhF (by kernel_rfl) ?_;go_wp2_with fail
   go_meet
   have hs:=hD.size;exact⟨b18,b19,b20,rfl,rfl,rfl,n1,n2,n3,by omega,by omega,by omega,Gt,Fe,Dw,hD.trans e0⟩
  case rest=>
   obtain⟨b18,b19,b20,rfl,rfl,rfl,n1,n2,n3,l18,l19,l20,Gt,Fe,Dw,hF⟩:=hcut;have hE:=C4.trans hF;have hr:=hF.get K4;have hx:=hF.get hxc;have hp:=hF.get Ql;obtain⟨N,hN⟩:∃N,N=w8.heap.size:=⟨_,rfl⟩;have hNp:w.heap.size+1+1<N:=by rw[hN];exact Z5 Ql
   have hNw:=hF.size;rw[<-hN] at l18 l19 l20 hNw;clear hF C4 K4 hxc Ql hN q0 q1 q2 q3 q4;obtain⟨w9,rfl⟩:∃W:World,W=wc:=⟨_,rfl⟩;have Ln:¬N<=w.heap.size:=by omega
   have N6:¬N<=w.heap.size+1:=by omega
   have htk:(L.take K).length=K:=by rw[List.length_take,A3.out];omega
   have hdp:(L.drop (K+1)).length=n - (K+1):=by rw[List.length_drop,A3.out]
   have Ij:Hid (RawA w (if cap=K+1 then some ⟨bs,off,none⟩ else some ⟨bs,off+(K+1)*7,none⟩) (L.drop (K+1))):=by
    show RawA _ _ _;split
    ·have:L.drop (K+1)=[]:=List.drop_of_length_le (by rw[A3.out];omega);rw[this];exact fun j y hy=>by simp at hy
    ·exact Znd hS.out (K+1)
   have A4:Hid (RawA w (some ⟨bs,off,none⟩) (L.take K)):=Znc hS.out K;obtain⟨AO,Uj⟩:∃AO,(if cap=K+1 then some (⟨bs,off,none⟩:Addr) else some ⟨bs,off+(K+1)*7,none⟩)=some ⟨bs,AO,none⟩:=by
    split
    ·exact⟨_,rfl⟩
    ·exact⟨_,rfl⟩
   rw[Uj] at Ij;replace Uj:Hid ((if cap=K+1 then some (⟨bs,off,none⟩:Addr) else some ⟨bs,off+(K+1)*7,none⟩)=some ⟨bs,AO,none⟩):=Uj;have Cc:(0:Int)<=(K:Int)+1:=by omega
   have Cw:(K:Int)+1<=(n:Int):=by omega
   have E2:(n:Int)<=(cap:Int):=by omega
   have E6:(K:Int)<=(n:Int):=by omega
   have M1:(K:Int)<=(cap:Int):=by omega
   have hcl0:¬cap=0:=by omega
   go_upto_region 9 with fail
   refine Zhk (ExtX fun q=>N<=q) (by kernel_rfl) ?_;have hD:=(Ext.rfl' w9).drew;have Jr:=hE.trans hD;have Ia:=hD.get hr;have Hu:=hD.get hx;have N7:=hD.get hp;have d18:=hD.get Gt;have d19:=hD.get Fe;have d20:=hD.get Dw;have Qm:N<=w9.drew.heap.size:=Nat.le_trans hNw hD.size;generalize w9.drew=Wd at Jr Ia Hu N7 d18 d19 d20 Qm⊢;clear hD hE hr hx hp Gt Fe Dw hNw;have y4:=Z0 Ia 4;simp only[YC,YA,YB] at y4;have gy:=GrE.cell (X:=fun q=>N<=q) Ln y4;refine Zh8 (ExtX.pre _) [1,2,3,4,6,7,8,9,10] (by kernel_rfl) (by kernel_rfl) ?_;simp only[ZeD,YB,YA,YK,YJ]
   repeat (go_big_quiet_step (fail))
   refine wpQuiet_nil ?_;refine Zh4 0 rfl (by kernel_rfl) rfl ?_;clear gy;rw[Uj.out];refine Zf3 ⟨.slice (some ⟨Wd.heap.size,0,none⟩) 0 0,Wd.alloc (.cells #[] 51),by simp[go_sem,execOp,Act.eval],Go.Nk.Ext.toX ((Ext.rfl' _).alloc _) _,?_⟩;have Uk:OwnA Wd.heap.size (Wd.alloc (.cells #[] 51)) (.slice (some ⟨Wd.heap.size,0,none⟩) 0 0) []:=ZkR (by rw[Z3,if_pos rfl]) (Nat.le_refl _);obtain⟨M,hM⟩:∃M,M=Wd.heap.size:=⟨_,rfl⟩;have eA:=(Ext.rfl' Wd).alloc (.cells #[] 51);have eD:=Jr;generalize Wd.alloc _=WA at Uk eA⊢;go_simp;refine Zh4 5 rfl (by kernel_rfl) rfl ?_;refine ZlM _ _ rfl Wd.heap.size _ [] rfl Uk ⟨bs,off,none⟩ cap (L.take K) (by rw[htk];rfl) (ZkQ ((A4.out).ext (Jr.trans eA))) (by simp only[List.length_nil];omega) eA.size (fun v3 W3 own3 H4=>⟨Zhv H4 (fun k hk=>by have:=(Uk.lt k hk).1;show N<=k;omega),?_⟩);rw[YJ] at own3;have e3:=eA.grown H4 (fun k hk=>(Uk.lt k hk).1);clear H4 Uk eA;go_simp;refine Zh4 11 rfl (by kernel_rfl) rfl ?_;refine ZlM _ _ rfl Wd.heap.size _ (L.take K) rfl own3 ⟨bs,AO,none⟩ (cap - (K+1)) (L.drop (K+1)) (by rw[hdp];rfl) (ZkQ ((Ij.out).ext (Jr.trans e3))) (by omega) e3.size (fun v4 W4 own4 P4=>⟨Zhv P4 (fun k hk=>by have:=(own3.lt k hk).1;show N<=k;omega),?_⟩)
   have e4:=e3.grown P4 (fun k hk=>(own3.lt k hk).1);clear P4 own3 e3;have own5:OwnA Wd.heap.size W4 v4 (ZmY L K):=own4;clear own4;obtain⟨af,cf,rfl,Ei⟩:=own5.form0;rw[Ui.out] at own5⊢;have c18:=e4.get d18;have c19:=e4.get d19;have c20:=e4.get d20;have cr:=e4.get Ia;have cx:=e4.get Hu;have cp:=e4.get N7;have Ar:=Jr.trans e4;have sz4:=e4.size;have k4:=Z0 c18 4;have f4:=Z8 c18 4;simp only[YC,YA,YB] at k4;have m18:=Z5 d18;have m19:=Z5 d19;have m20:=Z5 d20;have mp:=Z5 N7;clear d18 d19 d20 Ia Hu N7 e4 Jr y4;go_simp;refine Zh8 (ExtX.pre _) [12] (by kernel_rfl) (by kernel_rfl) ?_;simp only[ZeD,YB,YA,YK,YJ]
   repeat (go_big_quiet_step (fail))
   refine wpQuiet_nil ?_;refine Zh4 13 rfl (by kernel_rfl) rfl ?_;refine Zie ⟨W4.setCell ⟨b18,4,none⟩ (.slice af fn cf),by simp[go_sem,execOp,Act.eval,k4,f4],ExtX.set _ (show N<=b18 by omega) _,?_⟩;have own6:OwnA Wd.heap.size (W4.setCell ⟨b18,4,none⟩ (.slice af fn cf)) (.slice af fn cf) (ZmY L K):=ZlN own5 (fun k hk=>set_ne (w:=W4) (a:=⟨b18,4,none⟩) (show k≠b18 by have:=(own5.lt k hk).1;omega) (.slice af fn cf));have s18:=Zb (i:=4) c18 (.slice af fn cf);have s19:=(set_ne (w:=W4) (a:=⟨b18,4,none⟩) (show b19≠b18 by omega) (.slice af fn cf)).trans c19;have s20:=(set_ne (w:=W4) (a:=⟨b18,4,none⟩) (show b20≠b18 by omega) (.slice af fn cf)).trans c20;have sr:=(set_ne (w:=W4) (a:=⟨b18,4,none⟩) (show w.heap.size≠b18 by omega) (.slice af fn cf)).trans cr;have sx:=(set_ne (w:=W4) (a:=⟨b18,4,none⟩) (show w.heap.size+1≠b18 by omega) (.slice af fn cf)).trans cx;have sp:=(set_ne (w:=W4) (a:=⟨b18,4,none⟩) (show w.heap.size+1+1≠b18 by omega) (.slice af fn cf)).trans cp;have B4:=Ar.setCell ⟨b18,4,none⟩ (.slice af fn cf) (show w.heap.size<=b18 by omega);simp only[List.setIfInBounds_toArray,List.set_cons_succ,List.set_cons_zero] at s18;clear own5 c18 c19 c20 cr cx cp Ar k4 f4;have own7:=own6;obtain⟨Wf,P5⟩:∃z,z=Wd.heap.size:=⟨_,rfl⟩
   rw[<-P5] at own7;have P6:Wf<=(W4.setCell ⟨b18,4,none⟩ (.slice af fn cf)).heap.size:=by rw[(Go.Conc.aside_setCell _ _ _).size];omega
   rw[<-P5] at m18 m19 m20 mp;generalize W4.setCell _ _=W5 at own7 s18 s19 s20 sr sx sp B4 P6⊢;clear own6 P5;go_simp;refine ZhF (by kernel_rfl) ?_
   go_upto_region 10 with fail
   refine Zhk (ExtX fun q=>N<=q) (by kernel_rfl) ?_;have hmN:=Z5 s18;have hD:=(Ext.rfl' W5).drew;have Jr:=B4.trans hD;have Ia:=hD.get sr;have Hu:=hD.get sx;have N7:=hD.get sp;have d18:=hD.get s18;have d19:=hD.get s19;have d20:=hD.get s20;have Vw:=own7.ext hD;have Qm:N<=W5.drew.heap.size:=by have:=hD.size;omega
   have hWf:Wf<=W5.drew.heap.size:=Nat.le_trans P6 hD.size;generalize W5.drew=Wd at Jr Ia Hu N7 d18 d19 d20 Vw Qm hWf⊢;clear hD B4 sr sx sp s18 s19 s20 own7 hmN;have y4:=Z0 Ia 4;have x0:=Z0 Hu 0;have x1:=Z0 Hu 1;have x2:=Z0 Hu 2;have x3:=Z0 Hu 3;have x4:=Z0 Hu 4;have x5:=Z0 Hu 5;have x6:=Z0 Hu 6;simp only[YC,YA,YB] at y4 x0 x1 x2 x3 x4 x5 x6;have gy:=GrE.cell (X:=fun q=>N<=q) Ln y4;have gx0:=GrE.cell (X:=fun q=>N<=q) N6 x0;have gx1:=GrE.cell (X:=fun q=>N<=q) N6 x1;have gx2:=GrE.cell (X:=fun q=>N<=q) N6 x2;have gx3:=GrE.cell (X:=fun q=>N<=q) N6 x3;have gx4:=GrE.cell (X:=fun q=>N<=q) N6 x4;have gx5:=GrE.cell (X:=fun q=>N<=q) N6 x5;have gx6:=GrE.cell (X:=fun q=>N<=q) N6 x6;refine Zh8 (ExtX.pre _) [1,2,4] (by kernel_rfl) (by kernel_rfl) ?_;simp only[ZeD,YB,YA,YK,YJ]
   repeat (go_big_quiet_step (fail))
   refine wpQuiet_nil ?_;clear gy gx0 gx1 gx2 gx3 gx4 gx5 gx6
   refine Znl 0 3 5 105 108 110 (.tmp 107) #[.string x.nm,.int .i64 x.a0,.int .i64 x.a1,.int .i64 x.b0,.int .i64 x.b1,.int .i64 x.c0,.int .i64 x.c1] rfl rfl rfl rfl rfl rfl (by decide) (by decide) (by kernel_rfl) (fun _=>rfl) (fun _=>rfl) (fun _=>rfl) (fun a W=>by simp[go_sem,execOp,Act.eval]) rfl (by
    intro a' W ha;rcases ha with rfl|⟨v,rfl⟩|⟨v,v',rfl⟩<;>simp[go_sem,execOp,Act.eval]) ⟨bs,off,none⟩ cap L (by
    intro a' v ha;rw[A3.out];rcases ha with rfl|⟨v',rfl⟩|⟨v',rfl⟩<;>simp[go_sem,Act.eval]) (fun W hW=>ZkQ ((hS.out).ext (Jr.trans hW))) (by rw[A3.out];omega) (fun q hq=>by show N<=q;omega) (fun WB v1 v3 bn e5 own3' Ju=> ?_)
   go_simp;refine Zh4 6 rfl (by kernel_rfl) rfl ?_;refine ZlM _ _ rfl Wd.heap.size _ L rfl own3' ⟨bn,0,none⟩ 1 [x] rfl (by intro j v hj;have e5:ZkU [x]=[.string x.nm,.int .i64 x.a0,.int .i64 x.a1,.int .i64 x.b0,.int .i64 x.b1,.int .i64 x.c0,.int .i64 x.c1]:=rfl;rw[e5] at hj;rw[Z0c,Z0 Ju];simpa using hj) (by simp only[YP,List.length_nil,A3.out];omega) e5.size (fun v4 W4 own4 P4=>⟨Zhv P4 (fun k hk=>by have:=(own3'.lt k hk).1;show N<=k;omega),?_⟩);have e4:=e5.grown P4 (fun k hk=>(own3'.lt k hk).1);have ol:=fun k hk=>(own4.lt k hk).1
   have oL7:=fun k hk=>(Vw.lt k hk)
   clear P4 own3' e5 Ju;obtain⟨am,cm,rfl,Pr⟩:=own4.form0;rw[show(L++[x]).length=n+1 by rw[List.length_append,A3.out];rfl] at own4 ol⊢;have Ul:=Vw.ext e4;have c18:=e4.get d18;have c19:=e4.get d19;have c20:=e4.get d20;have cr:=e4.get Ia;have cp:=e4.get N7;have Ar:=Jr.trans e4;have k4:=Z0 c19 4;have f4:=Z8 c19 4;simp only[YC,YA,YB] at k4;clear d18 d19 d20 Ia Hu N7 e4 Jr y4 x0 x1 x2 x3 x4 x5 x6 Vw;go_simp;refine Zh8 (ExtX.pre _) [7] (by kernel_rfl) (by kernel_rfl) ?_;simp only[ZeD,YB,YA,YK,YJ]
   repeat (go_big_quiet_step (fail))
   refine wpQuiet_nil ?_;refine Zh4 8 rfl (by kernel_rfl) rfl ?_;refine Zie ⟨W4.setCell ⟨b19,4,none⟩ (.slice am (n+1) cm),by simp[go_sem,execOp,Act.eval,k4,f4],ExtX.set _ (show N<=b19 by omega) _,?_⟩;have own6:OwnA Wd.heap.size (W4.setCell ⟨b19,4,none⟩ (.slice am (n+1) cm)) (.slice am (n+1) cm) (L++[x]):=ZlN own4 (fun k hk=>set_ne (w:=W4) (a:=⟨b19,4,none⟩) (show k≠b19 by have:=ol k hk;omega) (.slice am (n+1) cm));have own8:OwnA Wf (W4.setCell ⟨b19,4,none⟩ (.slice am (n+1) cm)) (.slice af fn cf) (ZmY L K):=ZlN Ul (fun k hk=>set_ne (w:=W4) (a:=⟨b19,4,none⟩) (show k≠b19 by have:=(oL7 k hk).1;omega) (.slice am (n+1) cm));have s19:=Zb (i:=4) c19 (.slice am (n+1) cm);have s18:=(set_ne (w:=W4) (a:=⟨b19,4,none⟩) (show b18≠b19 by omega) (.slice am (n+1) cm)).trans c18;have s20:=(set_ne (w:=W4) (a:=⟨b19,4,none⟩) (show b20≠b19 by omega) (.slice am (n+1) cm)).trans c20;have sr:=(set_ne (w:=W4) (a:=⟨b19,4,none⟩) (show w.heap.size≠b19 by omega) (.slice am (n+1) cm)).trans cr;have sp:=(set_ne (w:=W4) (a:=⟨b19,4,none⟩) (show w.heap.size+1+1≠b19 by omega) (.slice am (n+1) cm)).trans cp;have B4:=Ar.setCell ⟨b19,4,none⟩ (.slice am (n+1) cm) (show w.heap.size<=b19 by omega);simp only[List.setIfInBounds_toArray,List.set_cons_succ,List.set_cons_zero] at s19
   clear own4 c18 c19 c20 cr cp Ar k4 f4 Ul ol oL7;have own9:OwnA Wf (W4.setCell ⟨b19,4,none⟩ (.slice am (n+1) cm)) (.slice am (n+1) cm) (L++[x]):=Znk own6 hWf;generalize W4.setCell _ _=W6 at own8 own9 s18 s19 s20 sr sp B4⊢;clear own6;go_simp;refine ZhF (by kernel_rfl) ?_;obtain⟨q0,q1,q2,q3,q4⟩:=Zgj sr;obtain⟨v0,v1,v2,v3,v4⟩:=Zgj s20;obtain⟨f0,f1,f2,f3,f4⟩:=ZiJ s20;have hnr0:¬b20=w.heap.size:=by omega
   have hnr1:¬w.heap.size=b20:=by omega
   go_upto_region 13 with fail
   rw[Vh.out,hC2.out];clear q0 q1 q2 q3 q4 v0 v1 v2 v3 v4 f0 f1 f2 f3 f4;have z20:=Zb (i:=2) (Zb (i:=0) s20 (.int .i64 A2)) (.int .i64 C2);simp only[List.setIfInBounds_toArray,List.set_cons_succ,List.set_cons_zero] at z20;have z18:=(set_ne (w:=W6.setCell ⟨b20,0,none⟩ (.int .i64 A2)) (a:=⟨b20,2,none⟩) (show b18≠b20 by omega) (.int .i64 C2)).trans ((set_ne (w:=W6) (a:=⟨b20,0,none⟩) (show b18≠b20 by omega) (.int .i64 A2)).trans s18);have z19:=(set_ne (w:=W6.setCell ⟨b20,0,none⟩ (.int .i64 A2)) (a:=⟨b20,2,none⟩) (show b19≠b20 by omega) (.int .i64 C2)).trans ((set_ne (w:=W6) (a:=⟨b20,0,none⟩) (show b19≠b20 by omega) (.int .i64 A2)).trans s19);have hr:=(set_ne (w:=W6.setCell ⟨b20,0,none⟩ (.int .i64 A2)) (a:=⟨b20,2,none⟩) (show w.heap.size≠b20 by omega) (.int .i64 C2)).trans ((set_ne (w:=W6) (a:=⟨b20,0,none⟩) (show w.heap.size≠b20 by omega) (.int .i64 A2)).trans sr);have hp:=(set_ne (w:=W6.setCell ⟨b20,0,none⟩ (.int .i64 A2)) (a:=⟨b20,2,none⟩) (show w.heap.size+1+1≠b20 by omega) (.int .i64 C2)).trans ((set_ne (w:=W6) (a:=⟨b20,0,none⟩) (show w.heap.size+1+1≠b20 by omega) (.int .i64 A2)).trans sp);have hE:=(B4.setCell ⟨b20,0,none⟩ (.int .i64 A2) (show w.heap.size<=b20 by omega)).setCell ⟨b20,2,none⟩ (.int .i64 C2) (show w.heap.size<=b20 by omega)
   have ow8:OwnA Wf ((W6.setCell ⟨b20,0,none⟩ (.int .i64 A2)).setCell ⟨b20,2,none⟩ (.int .i64 C2)) (.slice af fn cf) (ZmY L K):=by
    refine ZlN own8 (fun k hk=> ?_);have Lv:k≠b20:=(by have:=(own8.lt k hk).1;omega);exact(set_ne (w:=W6.setCell ⟨b20,0,none⟩ (.int .i64 A2)) (a:=⟨b20,2,none⟩) Lv (.int .i64 C2)).trans (set_ne (w:=W6) (a:=⟨b20,0,none⟩) Lv (.int .i64 A2))
   have ow9:OwnA Wf ((W6.setCell ⟨b20,0,none⟩ (.int .i64 A2)).setCell ⟨b20,2,none⟩ (.int .i64 C2)) (.slice am (n+1) cm) (L++[x]):=by
    refine ZlN own9 (fun k hk=> ?_);have Lv:k≠b20:=(by have:=(own9.lt k hk).1;omega);exact(set_ne (w:=W6.setCell ⟨b20,0,none⟩ (.int .i64 A2)) (a:=⟨b20,2,none⟩) Lv (.int .i64 C2)).trans (set_ne (w:=W6) (a:=⟨b20,0,none⟩) Lv (.int .i64 A2))
   have Ff:=ow8.rawA (fun y hy=>hS.out.size y ((Zn5 K).mem hy))
   have F7:=ow9.rawA (fun y hy=>by
    rcases List.mem_append.1 hy with h|h
    ·exact hS.out.size y h
    ·obtain rfl:y=x:=(by simpa using h);simp only[maxLen];omega)
   clear ow8 ow9 own8 own9 s18 s19 s20 sr sp B4;generalize (W6.setCell _ _).setCell _ _=W7 at z20 z18 z19 hr hp hE Ff F7⊢;clear Cc Cw E2 E6 M1 htk hdp Ij A4 Uj Qm hWf P6 mp m18 m19 m20 sz4 Ei Pr hnr0 hnr1 Ln N6 hNp l18 l19 l20
   go_cut [151] (fun s151 wd=>s151= .bool false/\Ext w wd/\wd.heap[w.heap.size]? =some (.cells #[.int .i64 a,.int .i64 b,.int .i64 c,.int .i64 m,.slice (some ⟨bs,off,none⟩) n cap] 26)/\wd.heap[w.heap.size+1+1]? =some (.cells #[.int .i64 p,.int .i64 q] 48))
   case first=>
    obtain⟨q0,q1,q2,q3,q4⟩:=Zgj hr;obtain⟨u0,u1,u2,u3,u4⟩:=Zgj z18;obtain⟨v0,v1,v2,v3,v4⟩:=Zgj z19;obtain⟨k0,k1,k2,k3,k4⟩:=Zgj z20;have Kq:¬qw<qn:=(by omega);by_cases P7:f26=0
    ·have Jz:=Hf.out P7;clear Hf;subst P7;have hq2:¬qm<qn:=by omega
     go_wp2_with (first
      |(go_at_call 41;(with_reducible refine(hmf _ _ _ hE Ff).mono ?_);rintro e wf ⟨rfl,hF⟩
        replace hE:=hE.trans hF;replace hr:=hF.get hr;replace hp:=hF.get hp;replace z18:=hF.get z18;replace z19:=hF.get z19;replace z20:=hF.get z20;replace F7:=F7.ext hF;replace Ff:=Ff.ext hF;clear hF q0 q1 q2 q3 q4 u0 u1 u2 u3 u4 v0 v1 v2 v3 v4 k0 k1 k2 k3 k4;obtain⟨q0,q1,q2,q3,q4⟩:=Zgj hr;obtain⟨u0,u1,u2,u3,u4⟩:=Zgj z18;obtain⟨v0,v1,v2,v3,v4⟩:=Zgj z19;obtain⟨k0,k1,k2,k3,k4⟩:=Zgj z20)
      |(go_at_call 41;(with_reducible refine(Rn _ hE).mono ?_);rintro e ww ⟨rfl,hF⟩
        replace hE:=hE.trans hF;replace hr:=hF.get hr;replace hp:=hF.get hp;replace z18:=hF.get z18;replace z19:=hF.get z19;replace z20:=hF.get z20;replace F7:=F7.ext hF;replace Ff:=Ff.ext hF;clear hF q0 q1 q2 q3 q4 u0 u1 u2 u3 u4 v0 v1 v2 v3 v4 k0 k1 k2 k3 k4;obtain⟨q0,q1,q2,q3,q4⟩:=Zgj hr;obtain⟨u0,u1,u2,u3,u4⟩:=Zgj z18;obtain⟨v0,v1,v2,v3,v4⟩:=Zgj z19;obtain⟨k0,k1,k2,k3,k4⟩:=Zgj z20)
      |(go_at_call 26;(with_reducible refine(Ad _ _ _ hE F7).mono ?_);rintro e wk ⟨rfl,hF⟩
        replace hE:=hE.trans hF;replace hr:=hF.get hr;replace hp:=hF.get hp;replace z18:=hF.get z18;replace z19:=hF.get z19;replace z20:=hF.get z20;replace F7:=F7.ext hF;replace Ff:=Ff.ext hF;clear hF q0 q1 q2 q3 q4 u0 u1 u2 u3 u4 v0 v1 v2 v3 v4 k0 k1 k2 k3 k4;obtain⟨q0,q1,q2,q3,q4⟩:=Zgj hr;obtain⟨u0,u1,u2,u3,u4⟩:=Zgj z18;obtain⟨v0,v1,v2,v3,v4⟩:=Zgj z19;obtain⟨k0,k1,k2,k3,k4⟩:=Zgj z20)
      |(go_at_call 41;(with_reducible refine(Jz _ _ _ hE F7).mono ?_);rintro e wm ⟨rfl,hF⟩
        replace hE:=hE.trans hF;replace hr:=hF.get hr;replace hp:=hF.get hp;replace z18:=hF.get z18;replace z19:=hF.get z19;replace z20:=hF.get z20;replace F7:=F7.ext hF;replace Ff:=Ff.ext hF;clear hF q0 q1 q2 q3 q4 u0 u1 u2 u3 u4 v0 v1 v2 v3 v4 k0 k1 k2 k3 k4;obtain⟨q0,q1,q2,q3,q4⟩:=Zgj hr;obtain⟨u0,u1,u2,u3,u4⟩:=Zgj z18;obtain⟨v0,v1,v2,v3,v4⟩:=Zgj z19;obtain⟨k0,k1,k2,k3,k4⟩:=Zgj z20))
     go_meet
     exact⟨rfl,hE,hr,hp⟩
    ·have Id:(f26==0)=false:=beq_eq_false_iff_ne.2 P7;clear Hf
     go_wp2_with (first
      |(go_at_call 41;(with_reducible refine(hmf _ _ _ hE Ff).mono ?_);rintro e wf ⟨rfl,hF⟩
        replace hE:=hE.trans hF;replace hr:=hF.get hr;replace hp:=hF.get hp;replace z18:=hF.get z18;replace z19:=hF.get z19;replace z20:=hF.get z20;replace F7:=F7.ext hF;replace Ff:=Ff.ext hF;clear hF q0 q1 q2 q3 q4 u0 u1 u2 u3 u4 v0 v1 v2 v3 v4 k0 k1 k2 k3 k4;obtain⟨q0,q1,q2,q3,q4⟩:=Zgj hr;obtain⟨u0,u1,u2,u3,u4⟩:=Zgj z18;obtain⟨v0,v1,v2,v3,v4⟩:=Zgj z19;obtain⟨k0,k1,k2,k3,k4⟩:=Zgj z20)
      |(go_at_call 41;(with_reducible refine(Rn _ hE).mono ?_);rintro e ww ⟨rfl,hF⟩
        replace hE:=hE.trans hF;replace hr:=hF.get hr;replace hp:=hF.get hp;replace z18:=hF.get z18;replace z19:=hF.get z19;replace z20:=hF.get z20;replace F7:=F7.ext hF;replace Ff:=Ff.ext hF;clear hF q0 q1 q2 q3 q4 u0 u1 u2 u3 u4 v0 v1 v2 v3 v4 k0 k1 k2 k3 k4;obtain⟨q0,q1,q2,q3,q4⟩:=Zgj hr;obtain⟨u0,u1,u2,u3,u4⟩:=Zgj z18;obtain⟨v0,v1,v2,v3,v4⟩:=Zgj z19;obtain⟨k0,k1,k2,k3,k4⟩:=Zgj z20)
      |(go_at_call 26;(with_reducible refine(Ad _ _ _ hE F7).mono ?_);rintro e wk ⟨rfl,hF⟩
        replace hE:=hE.trans hF;replace hr:=hF.get hr;replace hp:=hF.get hp;replace z18:=hF.get z18;replace z19:=hF.get z19;replace z20:=hF.get z20;replace F7:=F7.ext hF;replace Ff:=Ff.ext hF;clear hF q0 q1 q2 q3 q4 u0 u1 u2 u3 u4 v0 v1 v2 v3 v4 k0 k1 k2 k3 k4;obtain⟨q0,q1,q2,q3,q4⟩:=Zgj hr;obtain⟨u0,u1,u2,u3,u4⟩:=Zgj z18;obtain⟨v0,v1,v2,v3,v4⟩:=Zgj z19;obtain⟨k0,k1,k2,k3,k4⟩:=Zgj z20))
     go_meet
     exact⟨rfl,hE,hr,hp⟩
   case rest=>
    obtain⟨rfl,C4,K4,Ql⟩:=hcut;clear hE hr hp Ff F7 z18 z19 z20 hmf Rn Ad Hf;have hE:=C4;have hr:=K4;have hp:=Ql;clear C4 K4 Ql;obtain⟨q0,q1,q2,q3,q4⟩:=Zgj hr;have y:=Zc hp;have y0:=y.1;have y1:=y.2.1;clear y;have hq3:¬qo<qn:=(by omega);have hq4:qn<=qo:=(by omega);clear hfn hcn hqw hqm hqo hM eD Ur Q5 hK hKn n1 n2 n3 hcl0 D5 N8 hxz;by_cases Uq:f73=0
    ·subst Uq
     go_wp2_with (first
      |(go_at_call 73;refine(P3 _ hE).mono ?_;rintro e w5 ⟨a',b',c',m',ao3,n3,cp3,rfl,hF,B5⟩
        obtain⟨ea,eb,ec,em,en,Vx⟩:=B5.out rfl;subst ea eb ec em en;clear B5;have hX:=(Ext.rfl' w5).alloc (.cells #[.int .i64 a,.int .i64 b,.int .i64 c,.int .i64 m,.slice ao3 n cp3] 26);replace hE:=(hE.trans hF).trans hX;have ht:=(Z3 w5 (.cells #[.int .i64 a,.int .i64 b,.int .i64 c,.int .i64 m,.slice ao3 n cp3] 26) w5.heap.size).trans (if_pos rfl);replace Vx:=Vx.ext hX;clear hF hX q0 q1 q2 q3 q4 y0 y1 hp hr;obtain⟨t0,t1,t2,t3,t4⟩:=Zgj ht)
      |(go_at_call 41;refine(D6 _ _ _ hE Vx).mono ?_;rintro e w6 ⟨rfl,hF⟩
        replace hE:=hE.trans hF;clear hF t0 t1 t2 t3 t4 Vx ht)
      |(go_at_call 22;refine(B9 _ hE).mono ?_;rintro e w9 ⟨rfl,Vv⟩))
     go_ret;exact rfl
    ·have Id:(f73==0)=false:=beq_eq_false_iff_ne.2 Uq;clear D6
     go_wp2_with (first
      |(go_at_call 73;refine(P3 _ hE).mono ?_;rintro e w5 ⟨a',b',c',m',ao3,n3,cp3,rfl,hF,B5⟩
        clear B5;have hX:=(Ext.rfl' w5).alloc (.cells #[.int .i64 a',.int .i64 b',.int .i64 c',.int .i64 m',.slice ao3 n3 cp3] 26);replace hE:=(hE.trans hF).trans hX;have ht:=(Z3 w5 (.cells #[.int .i64 a',.int .i64 b',.int .i64 c',.int .i64 m',.slice ao3 n3 cp3] 26) w5.heap.size).trans (if_pos rfl)
        skip
        clear hF hX q0 q1 q2 q3 q4 y0 y1 hp hr;obtain⟨t0,t1,t2,t3,t4⟩:=Zgj ht)
      |(go_at_call 22;refine(B9 _ hE).mono ?_;rintro e w9 ⟨rfl,Vv⟩))
     go_ret;exact rfl
end Go.Proofs.Tryq
namespace Go.Proofs.Tryq
open Go Go.Nk Go.RowKit
set_option linter.all false
theorem ZmX(s n:Nat):Int.tmod (s:Int) (n:Int)=((s % n:Nat):Int):=by rw[Int.tmod_eq_emod_of_nonneg (by omega)];push_cast;rfl
theorem Zn1{a b c m:Int}{L:List Sf}(hs:Zp a b c m L=0){i:Nat}(hi:i<L.length):Zo a b c m L [(i:Int)]=0:=by rw[ZhG,if_pos hs,if_pos (by omega)]
theorem Zn3(a b c m:Int)(L:List Sf):(Z66 a b c m L).length<=L.length:=by
 unfold Z66;split
 ·exact Z2C _ _ _ _
 ·simp
theorem Znj{a:Int}{t:Nat}(ha:0<=a/\a<=9999)(ht:t<256):a<=(if wrap64 (a+t)<9999 then wrap64 (a+t) else 9999)/\0<=(if wrap64 (a+t)<9999 then wrap64 (a+t) else 9999)/\(if wrap64 (a+t)<9999 then wrap64 (a+t) else 9999)<=9999:=by
 rw[Z6a _ (by omega)];split<;>omega
theorem Znp{a b c m a2 c2:Int}{L:List Sf}(h:Zp a b c m L=0)(ha:0<=a2/\a2<=9999)(hc:0<=c2/\c2<=9999):Zp a2 b c2 m L=0:=by
 have B5:=ZlF h;rw[ZlE] at h⊢;refine⟨?_,h.2⟩;have h1:=B5.r 1;have h2:=B5.m;simp only[alw] at h1;unfold Z2J okA;rw[if_pos];simp only[YG,decide_eq_true_eq];omega
theorem ZmW(a b c m sh8 wh8 p q:Int)(x:Sf)(base:Option Addr)(n cap:Nat)(L:List Sf)(w:World)(A3:L.length=n)(Df:n<=cap)(Lh:0<=sh8/\sh8<256)(hw8:0<=wh8/\wh8<256)(hM:Meas w)(D6:Most w)(hd:Deb w)(hS:RawA w base L):
 Calls prog 18 #[.agg #[.int .i64 a,.int .i64 b,.int .i64 c,.int .i64 m,.slice base n cap],.agg #[.string x.nm,.int .i64 x.a0,.int .i64 x.a1,.int .i64 x.b0,.int .i64 x.b1,.int .i64 x.c0,.int .i64 x.c1],.int .u8 sh8,.int .u8 wh8,.agg #[.int .i64 p,.int .i64 q]] w fun e w'=>e= .returned (.bool true):=by
 have Gq:=fun W hW=>Zfd a b c m base n cap L W A3 (hS.ext hW)
 have B9:∀W,Ext w W->Calls prog 22 #[] W fun e w'=>e= .returned (.bool true)/\Ext W w':=fun W (hW:Ext w W)=>Zce W (hM.ext hW) (D6.ext hW) (hd.ext hW)
 cases hf:Zfc a b c m L with
 |false=>
  simp only[hf] at Gq;exact Znm a b c m sh8 wh8 p q x base n cap w Gq B9
 |true=>
  simp only[hf] at Gq;have hs:Zp a b c m L=0:=by
   have:Z1B L=false/\Zp a b c m L=0:=by simpa[Zfc] using hf
   exact this.2
  have B5:=ZlF hs;have h9:=B5.len;by_cases Gu:n=0
  ·exact Znn a b c m sh8 wh8 p q x base n cap w Gu Gq B9
  by_cases hz:100<x.nm.size
  ·exact Zno a b c m sh8 wh8 p q x base n cap w (by omega) hz Gq B9
  obtain⟨s,rfl⟩:=Int.eq_ofNat_of_zero_le Lh.1;obtain⟨t,rfl⟩:=Int.eq_ofNat_of_zero_le hw8.1;have hK:s % n<n:=Nat.mod_lt _ (by omega);have hV:t % 3<3:=Nat.mod_lt _ (by omega);have eK:=ZmX s n;have eV:=ZmX t 3;generalize s % n=K at hK eK;generalize t % 3=V at hV eV;obtain⟨y,hy⟩:∃y,L[K]? =some y:=⟨_,YH (by omega)⟩;obtain⟨bs,off,rfl,D5,_⟩:=hS K y hy;have Ac:=stks hs (k:=K) (by omega);have K7:=Zn3 a b c m L;have I5:=ZmZ (L:=L) (k:=K) (by omega);obtain⟨w1,w2,w3⟩:=Znj (a:=a) (t:=t) (B5.r 0) (by omega);obtain⟨v1,v2,v3⟩:=Znj (a:=c) (t:=s) (B5.r 2) (by omega);have hsw:=Znp hs ⟨w2,w3⟩ ⟨v2,v3⟩;have hqw:=ZlK hsw hs (Zn7 (L:=L) w1 (Int.le_refl b) v1);have H5:∀(LL:List Sf)(ao:Option Addr)(cp N:Nat) W,Ext w W->Zp a b c m LL=0->LL.length=N->RawA W ao LL->Calls prog 41 #[.agg #[.int .i64 a,.int .i64 b,.int .i64 c,.int .i64 m,.slice ao N cp]] W fun e w'=>e= .returned (.int .i64 (Z66 a b c m LL).length)/\Ext W w':=by
   intro LL ao cp N W hW hs hL hR;exact ZlC a b c m ao N cp LL W hL (by have:=(ZlF hs).len;omega) (hM.ext hW) hR hs
  obtain⟨qm,hqm,Hf⟩:∃qm,(Z66 a b c m L).length<=qm/\(Zp a b c m (L++[x])=0->∀ao cp W,Ext w W->RawA W ao (L++[x])->Calls prog 41 #[.agg #[.int .i64 a,.int .i64 b,.int .i64 c,.int .i64 m,.slice ao (n+1) cp]] W fun e w'=>e= .returned (.int .i64 qm)/\Ext W w'):=by
   by_cases h:Zp a b c m (L++[x])=0
   ·exact⟨_,ZlK h hs (Zna x),fun _ ao cp W hW hR=>H5 _ ao cp (n+1) W hW h (by rw[List.length_append,A3];rfl) hR⟩
   ·exact⟨_,Nat.le_refl _,fun e=>absurd e h⟩
  have main:∀(f73:Int)(L1:List Sf)(_:Zp a b c m L1=0)(_:L1.length=n)(_:(Z66 a b c m L).length<=(Z66 a b c m L1).length)
   (_:∀W,Ext w W->Calls prog 73 #[.agg #[.int .i64 a,.int .i64 b,.int .i64 c,.int .i64 m,.slice (some ⟨bs,off,none⟩) n cap],.int .i64 K,.int .i64 V,.agg #[.int .i64 p,.int .i64 q]] W fun e w'=>∃(a' b' c' m':Int)(ao:Option Addr)(n' cp':Nat),e= .returned (.tuple #[.agg #[.int .i64 a',.int .i64 b',.int .i64 c',.int .i64 m',.slice ao n' cp'],.int .i64 f73])/\Ext W w'/\Hid (f73=0->a=a'/\b=b'/\c=c'/\m=m'/\n=n'/\RawA w' ao L1)),
   Calls prog 18 #[.agg #[.int .i64 a,.int .i64 b,.int .i64 c,.int .i64 m,.slice (some ⟨bs,off,none⟩) n cap],.agg #[.string x.nm,.int .i64 x.a0,.int .i64 x.a1,.int .i64 x.b0,.int .i64 x.b1,.int .i64 x.c0,.int .i64 x.c1],.int .u8 s,.int .u8 t,.agg #[.int .i64 p,.int .i64 q]] w fun e w'=>e= .returned (.bool true):=by
   intro f73 L1 Cc Cb Kq P3;refine Zni a b c m s t p q x bs off n cap w D5 (by omega) (by omega) (by omega) L A3 hS K V hK eK eV hV Lh hw8 (Z66 a b c m L).length (by omega) (Z1Y a b c m L K) (Z6T a b c m L) (Z6T a b c m L).length (decide ((K:Int)∈Z6T a b c m L)) (ZmY L K).length (by omega) Df rfl _ _ rfl rfl (Z66 (if wrap64 (a+t)<9999 then wrap64 (a+t) else 9999) b (if wrap64 (c+s)<9999 then wrap64 (c+s) else 9999) m L).length qm (Z66 a b c m L1).length hqw hqm Kq (Zp a b c m (L++[x])) f73 L1 Ac.le Ac.ge (fun h=>Ac.left (of_decide_eq_true h)) Gq (fun W hW=> ?_) (fun W hW=> ?_) (fun W hW=> ?_) (fun bl cl W hI=> ?_) (fun ao cp W hW hR=> ?_) (fun W hW=> ?_) (fun ao cp W hW hR=> ?_) Hf P3 (fun ao cp W hW hR=> ?_) B9
   ·exact H5 L _ cap n W hW hs A3 (hS.ext hW)
   ·have:=ZbY a b c m (some ⟨bs,off,none⟩) n cap L W A3 (by omega) (hM.ext hW) (hS.ext hW);rw[Zhq,hs] at this;refine this.mono ?_;rintro e w2 ⟨u1,u2,rfl,hu,ho,hE⟩;obtain⟨ao,cp,rfl⟩:=hu.form;obtain⟨bl,cl,rfl,hI,_⟩:=ho.rawI;exact⟨ao,cp,bl,cl,rfl,hI,hE⟩
   ·have:=Z6S a b c m (some ⟨bs,off,none⟩) n cap L K W A3 (by omega) (hM.ext hW) (hS.ext hW);rw[Zn1 hs (by omega)] at this;exact this
   ·refine Zhj bl _ cl (Z6T a b c m L) K W rfl ?_ hI;have:(Z6T a b c m L).length<=L.length:=by
     unfold Z6T Z32;split
     ·rw[List.length_map];refine Nat.le_trans (List.length_filter_le _ _) ?_;rw[List.length_range];exact Nat.le_refl _
     ·simp
    omega
   ·have:=H5 (ZmY L K) ao cp _ W hW Ac.cut.1 rfl hR;rw[Ac.cut.2] at this;exact this
   ·exact ZlC _ b _ m _ n cap L W A3 (by omega) (hM.ext hW) (hS.ext hW) hsw
   ·exact Z1P a b c m ao (n+1) cp (L++[x]) W (by rw[List.length_append,A3];rfl) (by omega) hR
   ·exact H5 L1 ao cp n W hW Cc Cb hR
  have Bg:∀f:Int,f≠0->(∀W,Ext w W->Calls prog 73 #[.agg #[.int .i64 a,.int .i64 b,.int .i64 c,.int .i64 m,.slice (some ⟨bs,off,none⟩) n cap],.int .i64 K,.int .i64 V,.agg #[.int .i64 p,.int .i64 q]] W fun e w'=>e= .returned (.tuple #[.agg #[.int .i64 0,.int .i64 0,.int .i64 0,.int .i64 0,.slice none 0 0],.int .i64 f])/\Ext W w')->Calls prog 18 #[.agg #[.int .i64 a,.int .i64 b,.int .i64 c,.int .i64 m,.slice (some ⟨bs,off,none⟩) n cap],.agg #[.string x.nm,.int .i64 x.a0,.int .i64 x.a1,.int .i64 x.b0,.int .i64 x.b1,.int .i64 x.c0,.int .i64 x.c1],.int .u8 s,.int .u8 t,.agg #[.int .i64 p,.int .i64 q]] w fun e w'=>e= .returned (.bool true):=by
   intro f hf h;refine main f L hs A3 (Nat.le_refl _) fun W hW=>(h W hW).mono ?_
   rintro e w2 ⟨rfl,hE⟩;exact⟨0,0,0,0,none,0,0,rfl,hE,fun e=>absurd e hf⟩
  have h0:=Zn1 hs (i:=K) (by omega);have hok2:=B5.ok y (YQ hy) V;by_cases Ft:0<=p/\p<=q/\q<=9999
  ·have P3:=fun W (hW:Ext w W)=>Zl2 a b c m p q (spA y V).1 (spA y V).2 (max (spA y V).1 p) (min (spA y V).2 q) bs off n cap L y K V W A3 (by omega) (hM.ext hW) (hS.ext hW) h0 hK hV Ft hy rfl rfl rfl rfl
   by_cases hUV:min (spA y V).2 q<max (spA y V).1 p
   ·refine Bg 10 (by decide) fun W hW=>(P3 W hW).mono ?_
    rintro e w2 ⟨h1,_,hE⟩;exact⟨h1 hUV,hE⟩
   ·have Cc:=Zml (i:=K) (p:=(max (spA y V).1 p,min (spA y V).2 q)) hV (by simp only;omega) hs;refine main 0 (Zla L K V (max (spA y V).1 p,min (spA y V).2 q)) Cc (by rw[Zlb];exact A3) (ZlK Cc hs (Zng hV fun z hz=>by rw[hy] at hz;cases hz;simp only;omega)) fun W hW=>(P3 W hW).mono ?_
    rintro e w2 ⟨_,h1,hE⟩;obtain⟨g,cp,rfl,_,_,_,hR⟩:=h1 (by omega);exact⟨a,b,c,m,some ⟨g,0,none⟩,n,cp,rfl,hE,fun _=>⟨rfl,rfl,rfl,rfl,rfl,hR⟩⟩
  ·exact Bg 1 (by decide) fun W hW=>Zl1 a b c m p q (some ⟨bs,off,none⟩) n cap L W A3 (by omega) (hM.ext hW) (hS.ext hW) K V h0 (by omega) Ft
end Go.Proofs.Tryq
section
set_option maxRecDepth 100000
namespace Go.Proofs.YtedkbdkbbnemlaaGreatDoor
open Go
namespace JarrowStocks
theorem k0:Rows.arrowStocksRow.wf (OpenSpec.ofChange Rows.arrowStocksSpec)=true:=by kernel_rfl
theorem k1:laidOutB Tryz.prog=true:=by kernel_rfl
theorem k2:mapsRowed Tryz.prog=true:=by kernel_rfl
theorem k3:Tryz.f18.params.all (Tryz.prog.readableRec ·)=true:=by kernel_rfl
theorem k4:namedTie Tryz.prog Rows.arrowStocksRow.named Rows.arrowStocksSpec.vars=true:=by kernel_rfl
theorem k5:(Rows.arrowStocksRow.stops==[])=true:=by kernel_rfl
theorem k6:(Tryz.prog.stops==[])=true:=by kernel_rfl
theorem k7:(Rows.arrowStocksRow.knobs==[])=true:=by kernel_rfl
theorem k8:(Tryz.prog.stopKnobs==[])=true:=by kernel_rfl
theorem k9:(Rows.arrowStocksRow.inPlace==Tryz.prog.inPlace 18)=true:=by kernel_rfl
theorem k10:(Rows.arrowStocksRow.unfollowed==Tryz.prog.unfollowed 18)=true:=by kernel_rfl
theorem k11:(Rows.arrowStocksRow.recurses==Tryz.prog.recurses 18)=true:=by kernel_rfl
theorem k12:(Rows.arrowStocksRow.named==Tryz.prog.varsNamed 18)=true:=by kernel_rfl
theorem k13:(Rows.arrowStocksRow.maps==(Tryz.f18.params.toList++Rows.arrowStocksSpec.plain.varTypes Tryz.prog).any (Tryz.prog.mapsRec ·))=true:=by kernel_rfl
theorem k14:(Rows.arrowStocksRow.ifaces==(Tryz.f18.params.toList++Rows.arrowStocksSpec.plain.varTypes Tryz.prog).any (Tryz.prog.ifacesRec ·))=true:=by kernel_rfl
theorem k15:(Rows.arrowStocksRow.mapsOut==Tryz.prog.mapsAmong Tryz.f18.resultTypes.toList)=true:=by kernel_rfl
theorem k16:(Rows.arrowStocksRow.loops==(Tryz.f18.params.toList++Rows.arrowStocksSpec.plain.varTypes Tryz.prog).any (Tryz.prog.loopsFrom ·))=true:=by kernel_rfl
theorem k17:(Rows.arrowStocksRow.wideKeys==(Tryz.f18.params.toList++Rows.arrowStocksSpec.plain.varTypes Tryz.prog++Tryz.f18.resultTypes.toList).any (Tryz.prog.wideKeysFrom ·))=true:=by kernel_rfl
theorem k18:Rows.arrowStocksSpec.vars.all (Tryz.prog.varReadable ·)=true:=by kernel_rfl
theorem k19:Tryz.f18.resultTypes.all (fun t=>Tryz.prog.readableRec t&&decide (t<Tryz.prog.types.size))=true:=by kernel_rfl
theorem k20:(Rows.arrowStocksRow.ifacesOut==Tryz.f18.resultTypes.toList.any (Tryz.prog.ifacesRec ·))=true:=by kernel_rfl
theorem k21:(Rows.arrowStocksRow.loopsOut==Tryz.f18.resultTypes.toList.any (Tryz.prog.loopsFrom ·))=true:=by kernel_rfl
theorem k22:(Rows.arrowStocksRow.plainKeys==Tryz.prog.plainKeys)=true:=by kernel_rfl
theorem k23:Rows.arrowStocksRow.shortTexts.isNone=true:=by kernel_rfl
theorem k24:Tryz.prog.stopsHeard=true:=by kernel_rfl
theorem k25:Tryz.prog.mayEnter=true:=by kernel_rfl
theorem k26:(Rows.arrowStocksRow.lifted==Tryz.prog.liftsFinal)=true:=by kernel_rfl
theorem k27:(Tryz.prog.make==some Rows.arrowStocksRow.make)=true:=by kernel_rfl
theorem k28:(Rows.arrowStocksRow.kinds==(if Rows.arrowStocksRow.domain.isEmpty then[] else Tryz.f18.params.toList.map fun t=>match Tryz.prog.underlying t with|some (.int k)=>some k|_=>none))=true:=by kernel_rfl
theorem k29:(Rows.arrowStocksRow.pinned==Rows.arrowStocksRow.pinnedBy)=true:=by kernel_rfl
theorem k30:(Rows.arrowStocksRow.veiled==(Tryz.f18.params.toList++Rows.arrowStocksSpec.plain.varTypes Tryz.prog++Tryz.f18.resultTypes.toList).any (Tryz.prog.veiledRec ·))=true:=by kernel_rfl
theorem k31:Rows.arrowStocksRow.veiledFits Tryz.prog Tryz.f18.params.toList (Tryz.f18.params.toList++Rows.arrowStocksSpec.plain.varTypes Tryz.prog++Tryz.f18.resultTypes.toList)=true:=by kernel_rfl
theorem ZI{a b:Bool}(ha:a=true)(hb:b=true):(a&&b)=true:=by rw[ha,hb];rfl
theorem facts:joinedFacts Tryz.prog 18 Tryz.f18 Rows.arrowStocksSpec Rows.arrowStocksRow=true:=(ZI (ZI (ZI (ZI (ZI (ZI (ZI (ZI (ZI (ZI (ZI (ZI (ZI (ZI (ZI (ZI (ZI (ZI (ZI (ZI (ZI (ZI (ZI (ZI (ZI (ZI (ZI (ZI (ZI (ZI (ZI k0 k1) k2) k3) k4) k5) k6) k7) k8) k9) k10) k11) k12) k13) k14) k15) k16) k17) k18) k19) k20) k21) k22) k23) k24) k25) k26) k27) k28) k29) k30) k31)
end JarrowStocks
end Go.Proofs.YtedkbdkbbnemlaaGreatDoor
end
namespace Go.Proofs.Tryq
set_option maxRecDepth 100000
open Go Go.Nk Go.RowKit Go.ChangeShapes Go.WideShapes Go.ChangeAt Go.Conc Go.Deep
attribute [local instance] theBan
section
variable {H:Type} {enc:TypeId×Value->H} {W:World} {b0:Nat}
theorem Zf4{t:TypeId}{k:IntKind}(hu:Tryz.prog.underlying t=some (.int k))(hs:isS Tryz.prog t=false)(ha:isA Tryz.prog t=false)(hl:(Z3e Tryz.prog 0 t 0).any (fun y=>y.1==0&&y.2==t)=true)(Ed:Tryz.prog.cellsOf t=1){v:Value}{d:DataW H}{p:List MemPlace}(hv:Value.okWide Tryz.prog W .any b0 t v)(h:DataW.Trod enc Tryz.prog W 0 (fun _=>true) true t v d p):
 ∃n:Int,v= .int k n/\(Lit.int k n).wf=true/\VRel id (Nk.Live (Zx W)) v v:=by
 have hc:=Zei hv hs ha;obtain⟨fuel,hf⟩:=h;have e:v.cells.toList=[v]:=by
  cases v<;>first|rfl|skip
  rename_i cs;simp[Cell.okWide,Cell.ok,hu] at hc
 rw[e] at hf;have Ad:[v].length<=Tryz.prog.cellsOf t:=by rw[Ed];exact Nat.le_refl _
 obtain⟨x1,e1,hw⟩:=Z0z (n:=0) (o:=0) (u:=t) Ad ⟨_,_,hf⟩ hl hu;obtain rfl:v= .int k x1:=by simpa using e1
 exact⟨x1,rfl,hw,.int _ _⟩
theorem Zgg{n:Int}(h:(Lit.int .u8 n).wf=true):0<=n/\n<256:=by
 have h1:IntKind.u8.min=0:=rfl;have h2:IntKind.u8.max=255:=rfl;simp only[Lit.wf,YG,decide_eq_true_eq] at h;omega
theorem ZfW{v:Value}{d:DataW H}{p:List MemPlace}(hv:Value.okWide Tryz.prog W .any b0 5 v)(h:DataW.Trod enc Tryz.prog W 0 (fun _=>true) true 5 v d p):∃n:Int,v= .int .u8 n/\(Lit.int .u8 n).wf=true/\VRel id (Nk.Live (Zx W)) v v:=
 Zf4 under5 (by kernel_rfl) (by kernel_rfl) (by kernel_rfl) (by kernel_rfl) hv h
end
section
variable {H:Type} {enc:TypeId×Value->H} {W:World} {b0:Nat}
theorem ZiK{P:Program}{w:World}{base:Nat}{spare:Nat->Bool}{held:Bool}{t t' t'' t3 t4:TypeId}{args:Array Value}{ds:List (DataW H)}{ps:List MemPlace}(h:DataW.TrodAll enc P w base spare held [t,t',t'',t3,t4] args.toList ds ps):
 ∃v v' v'' v3 v4 d d' d'' d3 d4 p p' p'' p3 p4,args= #[v,v',v'',v3,v4]/\ds=[d,d',d'',d3,d4]/\ps=p++p'++p''++p3++p4/\DataW.Trod enc P w base spare held t v d p/\DataW.Trod enc P w base spare held t' v' d' p'/\DataW.Trod enc P w base spare held t'' v'' d'' p''/\DataW.Trod enc P w base spare held t3 v3 d3 p3/\DataW.Trod enc P w base spare held t4 v4 d4 p4:=by
 obtain⟨v,vs,d,ds',p,q,Ih,rfl,rfl,hd,Um⟩:=trodAll_cons h;obtain⟨v',vs',d',ds'',p',q',rfl,rfl,rfl,hd',P8⟩:=trodAll_cons Um;obtain⟨v'',vs'',d'',ds''',p'',q'',rfl,rfl,rfl,hd'',Lo⟩:=trodAll_cons P8;obtain⟨v3,vs3,d3,ds3,p3,q3,rfl,rfl,rfl,hd3,P9⟩:=trodAll_cons Lo;obtain⟨v4,vs4,d4,ds4,p4,q4,rfl,rfl,rfl,hd4,Pa⟩:=trodAll_cons P9;obtain⟨rfl,rfl,rfl⟩:=trodAll_nil Pa;exact⟨v,v',v'',v3,v4,d,d',d'',d3,d4,p,p',p'',p3,p4,by cases args;simp_all,rfl,by simp,hd,hd',hd'',hd3,hd4⟩
end
theorem cells48:Tryz.prog.cellsOf 48=2:=by kernel_rfl
theorem arr2{cs:Array Value}{a b:Value}(hs:cs.size=2)(h0:cs.toList[0]? =some a)(h1:cs.toList[1]? =some b):cs= #[a,b]:=by
 rcases cs with⟨l⟩
 match l,hs,h0,h1 with
 |[w,x],_,h0,h1=>
  simp at h0 h1;rw[h0,h1]
section
variable {H:Type} {enc:TypeId×Value->H} {W:World} {b0:Nat}
theorem Zl8{v:Value}{d:DataW H}{p:List MemPlace}(hv:Value.okWide Tryz.prog W .any b0 48 v)(h:DataW.Trod enc Tryz.prog W 0 (fun _=>true) true 48 v d p):
 ∃a b:Int,v= .agg #[.int .i64 a,.int .i64 b]/\VRel id (Nk.Live (Zx W)) v v:=by
 obtain⟨cs,rfl,hs,hx⟩:=ZiU hv (by kernel_rfl);obtain⟨fuel,hf⟩:=h;have hf:DataW.trod enc Tryz.prog W 0 (fun _=>true) true fuel 48 cs.toList=some (d,p):=hf;rw[cells48] at hs;have Ad:cs.toList.length<=Tryz.prog.cellsOf 48:=by rw[cells48];simp[hs]
 obtain⟨x0,e0,w0⟩:=Z0z (n:=3) (o:=0) (u:=3) Ad ⟨_,_,hf⟩ (by kernel_rfl) under3;obtain⟨x1,e1,w1⟩:=Z0z (n:=3) (o:=1) (u:=3) Ad ⟨_,_,hf⟩ (by kernel_rfl) under3;have hcs4:=arr2 hs e0 e1;subst hcs4;have hA:AR id (Nk.Live (Zx W)) #[.int .i64 x0,.int .i64 x1] #[.int .i64 x0,.int .i64 x1]:=(AR.nil.push (.int _ _)).push (.int _ _);exact⟨x0,x1,rfl,.agg hA.1 hA.2⟩
end
theorem arr7{cs:Array Value}{a b c d e f g:Value}(hs:cs.size=7)(h0:cs.toList[0]? =some a)(h1:cs.toList[1]? =some b)(h2:cs.toList[2]? =some c)(h3:cs.toList[3]? =some d)(h4:cs.toList[4]? =some e)(h5:cs.toList[5]? =some f)(h6:cs.toList[6]? =some g):cs= #[a,b,c,d,e,f,g]:=by
 rcases cs with⟨l⟩
 match l,hs,h0,h1,h2,h3,h4,h5,h6 with
 |[_,_,_,_,_,_,_],_,h0,h1,h2,h3,h4,h5,h6=>
  simp at h0 h1 h2 h3 h4 h5 h6;rw[h0,h1,h2,h3,h4,h5,h6]
section
variable {H:Type} {enc:TypeId×Value->H} {W:World} {b0:Nat}
theorem Zn9{v:Value}{d:DataW H}{p:List MemPlace}(hv:Value.okWide Tryz.prog W .any b0 51 v)(h:DataW.Trod enc Tryz.prog W 0 (fun _=>true) true 51 v d p):
 ∃x:Sf,v= .agg (sfC x)/\x.nm.size<=maxLen/\VRel id (Nk.Live (Zx W)) v v:=by
 obtain⟨cs,rfl,hs,hx⟩:=ZiU hv (by kernel_rfl);obtain⟨fuel,hf⟩:=h;have hf:DataW.trod enc Tryz.prog W 0 (fun _=>true) true fuel 51 cs.toList=some (d,p):=hf;rw[cells51] at hs;have Ad:cs.toList.length<=Tryz.prog.cellsOf 51:=by rw[cells51];simp[hs]
 obtain⟨s,e0,hz⟩:=Z6d (n:=3) (o:=0) (u:=9) Ad ⟨_,_,hf⟩ (by kernel_rfl) under9;obtain⟨x1,e1,_⟩:=Z0z (n:=3) (o:=1) (u:=3) Ad ⟨_,_,hf⟩ (by kernel_rfl) under3;obtain⟨x2,e2,_⟩:=Z0z (n:=3) (o:=2) (u:=3) Ad ⟨_,_,hf⟩ (by kernel_rfl) under3;obtain⟨x3,e3,_⟩:=Z0z (n:=3) (o:=3) (u:=3) Ad ⟨_,_,hf⟩ (by kernel_rfl) under3;obtain⟨x4,e4,_⟩:=Z0z (n:=3) (o:=4) (u:=3) Ad ⟨_,_,hf⟩ (by kernel_rfl) under3;obtain⟨x5,e5,_⟩:=Z0z (n:=3) (o:=5) (u:=3) Ad ⟨_,_,hf⟩ (by kernel_rfl) under3;obtain⟨x6,e6,_⟩:=Z0z (n:=3) (o:=6) (u:=3) Ad ⟨_,_,hf⟩ (by kernel_rfl) under3;have Qf:=arr7 hs e0 e1 e2 e3 e4 e5 e6;subst Qf
 have hA:AR id (Nk.Live (Zx W)) (sfC ⟨s,x1,x2,x3,x4,x5,x6⟩) (sfC ⟨s,x1,x2,x3,x4,x5,x6⟩):=
  ((((((AR.nil.push (.string _)).push (.int _ _)).push (.int _ _)).push (.int _ _)).push (.int _ _)).push (.int _ _)).push (.int _ _)
 exact⟨⟨s,x1,x2,x3,x4,x5,x6⟩,rfl,hz,.agg hA.1 hA.2⟩
end
end Go.Proofs.Tryq
