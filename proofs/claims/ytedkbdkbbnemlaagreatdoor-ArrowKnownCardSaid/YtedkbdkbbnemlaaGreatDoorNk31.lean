/- nocklaw01.ArrowKnown: for every stock, any list, any shaft, whatever is measured, any span, any truth the call returns true, on every schedule and without a data race; its arguments read afterwards as they read before; nothing that was in memory is changed; at the return no other goroutine does more than leave. The card ties the four listed package variables to the program's text. Conditions: none beyond the card's own (the listed variables hold what the program's text lays). The texts of this claim were shortened by program (no remarks, short names) to fit the bounds on a claim's size; their long form lies in the repository's folder wip. -/
import Derived.Test.YtedkbdkbbnemlaaGreatDoorNk30
import Derived.Carry
import Derived.Deep.DeepCutAuto
import Derived.JoinedOf
import Derived.KernelRfl
import Derived.Test.YtedkbdkbbnemlaaGreatDoorRows
set_option linter.all false
namespace Go.Proofs.Tryq
set_option maxRecDepth 100000
set_option maxHeartbeats 8000000
open Go Go.Nk Go.RowKit
set_option linter.all false
theorem box2(w:World)(A B:Obj):Ext w ((w.alloc A).alloc B)/\((w.alloc A).alloc B).heap[w.heap.size]? =some A/\((w.alloc A).alloc B).heap[w.heap.size+1]? =some B:=by
 refine⟨((Ext.rfl' w).alloc A).alloc B,?_,?_⟩
 ·simp only[Z3,Z2];rw[if_neg (by omega),if_pos trivial]
 ·simp only[Z3,Z2];rw[if_pos trivial]
theorem Zmh{w:World}{bl:Option Addr}{l:List Int}{ob:Nat}(h:RawI w bl l)(hn:∀g o,bl=some ⟨g,o,none⟩->l≠[]->g≠ob)(v0 v1 v2 v3 v4:Value):RawI (ZjW w ob v0 v1 v2 v3 v4) bl l:=by
 intro i x hx;obtain⟨b,o,e,hb,hc⟩:=h i x hx;have A8:b≠ob:=hn b o e (fun h=>by rw[h] at hx;simp at hx);have hk:=ZiG w (b:=ob) A8 v0 v1 v2 v3 v4;refine⟨b,o,e,?_,?_⟩
 ·rw[Array.getElem?_eq_getElem hb] at hk;exact(Array.getElem?_eq_some_iff.1 hk).1
 ·simp only[World.cell?,hk] at hc⊢;exact hc
theorem Zmk(a b c m bt sh8 wh8 p q:Int)(base:Option Addr)(n cap:Nat)(pb:Option Addr)(pn pc:Nat)(w:World)(fb:Bool)(hn:fb=true->n=0)
 (Mq:∀W,Ext w W->Calls prog 30 #[.agg #[.int .i64 a,.int .i64 b,.int .i64 c,.int .i64 m,.slice base n cap]] W fun e w'=>e= .returned (.bool fb)/\Ext W w')
 (Bg:∀W,Ext w W->Calls prog 22 #[] W fun e w'=>e= .returned (.bool true)/\Ext W w'):
 Calls prog 17 #[.agg #[.int .i64 a,.int .i64 b,.int .i64 c,.int .i64 m,.slice base n cap],.int .u16 bt,.int .u8 sh8,.int .u8 wh8,.agg #[.int .i64 p,.int .i64 q],.slice pb pn pc] w fun e w'=>e= .returned (.bool true):=by
 cases fb
 ·clear hn;obtain⟨Bf,De,By⟩:=box2 w (.cells #[.int .i64 a,.int .i64 b,.int .i64 c,.int .i64 m,.slice base n cap] 26) (.cells #[.int .i64 p,.int .i64 q] 48);go_enter func17,ntmps17
  go_wp2_with (first
   |(go_at_call 30;refine(Mq _ Bf).mono ?_;rintro e w2 ⟨rfl,hF⟩
     have hE:=Bf.trans hF;have hr:=hF.get De;have hp:=hF.get By;clear hF;obtain⟨q0,q1,q2,q3,q4⟩:=Zgj hr;have y:=Zc hp;have y0:=y.1;have y1:=y.2.1;clear y)
   |(go_at_call 22;refine(Bg _ hE).mono ?_;rintro e w9 ⟨rfl,hF9⟩))
  go_ret;exact rfl
 ·obtain rfl:=hn rfl;clear hn;obtain⟨Bf,De,By⟩:=box2 w (.cells #[.int .i64 a,.int .i64 b,.int .i64 c,.int .i64 m,.slice base 0 cap] 26) (.cells #[.int .i64 p,.int .i64 q] 48);go_enter func17,ntmps17
  go_wp2_with (first
   |(go_at_call 30;refine(Mq _ Bf).mono ?_;rintro e w2 ⟨rfl,hF⟩
     have hE:=Bf.trans hF;have hr:=hF.get De;have hp:=hF.get By;clear hF;obtain⟨q0,q1,q2,q3,q4⟩:=Zgj hr;have y:=Zc hp;have y0:=y.1;have y1:=y.2.1;clear y)
   |(go_at_call 22;refine(Bg _ hE).mono ?_;rintro e w9 ⟨rfl,hF9⟩))
  go_ret;exact rfl
theorem Zme(a b c m bt sh8 wh8 p q:Int)(bs off n cap:Nat)(pb:Option Addr)(pn pc:Nat)(w:World)(D8:bs<w.heap.size)(Lr:n<=9)(hn1:1<=n)(L:List Sf)(hS:Hid (RawA w (some ⟨bs,off,none⟩) L))(l:List Int)(ln:Nat)(K V:Nat)(hK:Int.tmod sh8 (n:Int)=(K:Int))(hV:Int.tmod wh8 3=(V:Int))(Wj:V<3)(Kv:0<=sh8/\sh8<256)(hw8:0<=wh8/\wh8<256)(mv nv zv:Int)(hb mb:Bool)(L1:List Sf)(R:Nat->Nat->Int)
 (hnv:Hid ((mv=0/\nv=0)\/(mv=0/\¬nv=0/\hb=true)\/(¬mv=0/\nv=mv)))(K7:(zv !=0)=true)(Wb:(zv==1)=mb)
 (Mq:∀W,Ext w W->Calls prog 30 #[.agg #[.int .i64 a,.int .i64 b,.int .i64 c,.int .i64 m,.slice (some ⟨bs,off,none⟩) n cap]] W fun e w'=>e= .returned (.bool true)/\Ext W w')
 (h31:∀W,Ext w W->Calls prog 31 #[.agg #[.int .i64 a,.int .i64 b,.int .i64 c,.int .i64 m,.slice (some ⟨bs,off,none⟩) n cap],.int .u16 bt] W fun e w'=>∃bl cl,e= .returned (.slice bl ln cl)/\ln<=cl/\RawI w' bl l/\Ext W w')
 (h23:∀bl cl W,Ext w W->ln<=cl->RawI W bl l->Calls prog 23 #[.agg #[.int .i64 a,.int .i64 b,.int .i64 c,.int .i64 m,.slice (some ⟨bs,off,none⟩) n cap],.slice bl ln cl] W fun e w'=>e= .returned (.tuple #[.int .i64 mv,.int .i64 0])/\Ext W w')
 (Ot:∀W,Ext w W->Calls prog 73 #[.agg #[.int .i64 a,.int .i64 b,.int .i64 c,.int .i64 m,.slice (some ⟨bs,off,none⟩) n cap],.int .i64 K,.int .i64 V,.agg #[.int .i64 p,.int .i64 q]] W fun e w'=>∃(f a' b' c' m':Int)(ao:Option Addr)(n' cp':Nat),e= .returned (.tuple #[.agg #[.int .i64 a',.int .i64 b',.int .i64 c',.int .i64 m',.slice ao n' cp'],.int .i64 f])/\Ext W w'/\Hid (f=0->a=a'/\b=b'/\c=c'/\m=m'/\n=n'/\RawA w' ao L1))
 (Lf:∀ao cp bl cl W,Ext w W->ln<=cl->RawA W ao L1->RawI W bl l->Calls prog 23 #[.agg #[.int .i64 a,.int .i64 b,.int .i64 c,.int .i64 m,.slice ao n cp],.slice bl ln cl] W fun e w'=>e= .returned (.tuple #[.int .i64 nv,.int .i64 0])/\Ext W w')
 (hhn:∀bl cl W,RawI W bl l->Calls prog 39 #[.slice bl ln cl,.int .i64 K] W fun e w'=>e= .returned (.bool hb)/\Ext W w')
 (h76:∀W (i v:Nat),Ext w W->i<n->v<3->Calls prog 76 #[.agg #[.int .i64 a,.int .i64 b,.int .i64 c,.int .i64 m,.slice (some ⟨bs,off,none⟩) n cap],.int .i64 i,.int .i64 v,.slice pb pn pc] W fun e w'=>e= .returned (.int .i64 (R i v))/\Ext W w')
 (h73l:∀LL (g o cp i v:Nat) W,Ext w W->i<n->v<3->Hid (Gd L LL R i v)->RawA W (some ⟨g,o,none⟩) LL->Calls prog 73 #[.agg #[.int .i64 a,.int .i64 b,.int .i64 c,.int .i64 m,.slice (some ⟨g,o,none⟩) n cp],.int .i64 i,.int .i64 v,.agg #[.int .i64 (R i v),.int .i64 (R i v)]] W fun e w'=>∃g2 cp2,e= .returned (.tuple #[.agg #[.int .i64 a,.int .i64 b,.int .i64 c,.int .i64 m,.slice (some ⟨g2,0,none⟩) n cp2],.int .i64 0])/\(∃cur,w'.heap[g2]? =some (.cells cur 51))/\RawA w' (some ⟨g2,0,none⟩) (Zla LL i v (R i v,R i v))/\Ext W w')
 (h23c:∀LL (g o cp:Nat) bl cl W,Ext w W->Hid (Gd L LL R n 0)->ln<=cl->RawA W (some ⟨g,o,none⟩) LL->RawI W bl l->Calls prog 23 #[.agg #[.int .i64 a,.int .i64 b,.int .i64 c,.int .i64 m,.slice (some ⟨g,o,none⟩) n cp],.slice bl ln cl] W fun e w'=>e= .returned (.tuple #[.int .i64 zv,.int .i64 0])/\Ext W w')
 (h32:∀bl cl W,Ext w W->ln<=cl->RawI W bl l->Calls prog 32 #[.agg #[.int .i64 a,.int .i64 b,.int .i64 c,.int .i64 m,.slice (some ⟨bs,off,none⟩) n cap],.slice bl ln cl,.slice pb pn pc] W fun e w'=>e= .returned (.bool mb)/\Ext W w')
 (Bg:∀W,Ext w W->Calls prog 22 #[] W fun e w'=>e= .returned (.bool true)/\Ext W w'):
 Calls prog 17 #[.agg #[.int .i64 a,.int .i64 b,.int .i64 c,.int .i64 m,.slice (some ⟨bs,off,none⟩) n cap],.int .u16 bt,.int .u8 sh8,.int .u8 wh8,.agg #[.int .i64 p,.int .i64 q],.slice pb pn pc] w fun e w'=>e= .returned (.bool true):=by
 obtain⟨Bf,De,By⟩:=box2 w (.cells #[.int .i64 a,.int .i64 b,.int .i64 c,.int .i64 m,.slice (some ⟨bs,off,none⟩) n cap] 26) (.cells #[.int .i64 p,.int .i64 q] 48);have Hs:((n:Int)==0)=false:=beq_eq_false_iff_ne.2 (by omega);have hnz:¬n=0:=by omega
 go_enter func17,ntmps17
 go_wp2_with (first
  |(go_at_call 30;refine(Mq _ Bf).mono ?_;rintro e w2 ⟨rfl,hF⟩
    have hE:=Bf.trans hF;have hr:=hF.get De;have hp:=hF.get By;clear hF;obtain⟨q0,q1,q2,q3,q4⟩:=Zgj hr;have y:=Zc hp;have y0:=y.1;have y1:=y.2.1;clear y))
 clear Bf De By;have g0:=Zet q0;have g1:=Zet q1;have g2:=Zet q2;have g3:=Zet q3;have g4:=Zet q4;refine ZeG 15 (by kernel_rfl) ?_;refine ZeB [0,1,3,4,5,6,7,8,9,10,11] (by kernel_rfl) (by kernel_rfl) ?_;simp only[ZeD,List.getElem?_cons_succ,List.getElem?_cons_zero,List.cons_append,List.nil_append]
 repeat (go_big_quiet_step (fail))
 refine wpQuiet_nil ?_;refine Zfa 2 rfl (by kernel_rfl) rfl (fun W hW=>Zfo (f:=31) (args:= #[.agg #[.int .i64 a,.int .i64 b,.int .i64 c,.int .i64 m,.slice (some ⟨bs,off,none⟩) n cap],.int .u16 bt]) (by simp[go_sem,execOp,Act.eval]) ?_);refine(h31 W (hE.trans hW)).mono ?_;rintro e W2 ⟨bl,cl,rfl,Ct,hI,hF⟩;refine⟨.slice bl ln cl,rfl,hF,?_⟩;have B0:=hW.trans hF;clear hF hW;replace hr:=B0.get hr;replace hp:=B0.get hp;clear q0 q1 q2 q3 q4 y0 y1 g0 g1 g2 g3 g4;obtain⟨q0,q1,q2,q3,q4⟩:=Zgj hr;have y:=Zc hp;have y0:=y.1;have y1:=y.2.1;clear y;have g0:=Zet q0;have g1:=Zet q1;have g2:=Zet q2;have g3:=Zet q3;have g4:=Zet q4;obtain⟨Wc,rfl⟩:∃z,z=W:=⟨_,rfl⟩;go_simp;refine ZeB [12,13,14] (by kernel_rfl) (by kernel_rfl) ?_;simp only[ZeD,List.getElem?_cons_succ,List.getElem?_cons_zero,List.cons_append,List.nil_append]
 repeat (go_big_quiet_step (fail))
 refine wpQuiet_nil ?_;refine Zf6 (by kernel_rfl) (fun W hW=> ?_);replace hE:=hE.trans (B0.trans hW);replace hI:=hI.ext hW;replace hr:=hW.get hr;replace hp:=hW.get hp;clear B0 hW q0 q1 q2 q3 q4 y0 y1 g0 g1 g2 g3 g4;obtain⟨q0,q1,q2,q3,q4⟩:=Zgj hr;have y:=Zc hp;have y0:=y.1;have y1:=y.2.1;clear y
 go_upto_if 68 with(first
  |(go_at_call 23;(with_reducible refine(h23 bl cl _ hE Ct hI).mono ?_);rintro e w3 ⟨rfl,hF⟩
    replace hE:=hE.trans hF;replace hr:=hF.get hr;replace hp:=hF.get hp;replace hI:=hI.ext hF;clear hF q0 q1 q2 q3 q4 y0 y1;obtain⟨q0,q1,q2,q3,q4⟩:=Zgj hr;have y:=Zc hp;have y0:=y.1;have y1:=y.2.1;clear y)
  |(go_at_call 73;refine(Ot _ hE).mono ?_;rintro e w5 ⟨f,a',b',c',m',ao,n',cp',rfl,hF,Az⟩
    have hX:=(Ext.rfl' w5).alloc (.cells #[.int .i64 a',.int .i64 b',.int .i64 c',.int .i64 m',.slice ao n' cp'] 26);replace hE:=(hE.trans hF).trans hX;replace hr:=hX.get (hF.get hr);replace hI:=(hI.ext hF).ext hX;have ht:=(Z3 w5 (.cells #[.int .i64 a',.int .i64 b',.int .i64 c',.int .i64 m',.slice ao n' cp'] 26) w5.heap.size).trans (if_pos rfl);have Cz:=hX;clear hF hX q0 q1 q2 q3 q4 y0 y1 hp))
 go_cut [] (fun wc=>Ext w wc/\wc.heap[w.heap.size]? =some (.cells #[.int .i64 a,.int .i64 b,.int .i64 c,.int .i64 m,.slice (some ⟨bs,off,none⟩) n cap] 26)/\RawI wc bl l)
 case first=>
  obtain⟨t0,t1,t2,t3,t4⟩:=Zgj ht;by_cases hf:f=0
  ·obtain⟨ea,eb,ec,em,en,Ua⟩:=Az.out hf;have Qc:=Ua.ext Cz;clear Ua Az Cz ht;subst ea eb ec em en hf;have Ub:(mv=0/\nv=0)\/(mv=0/\¬nv=0/\hb=true)\/(¬mv=0/\nv=mv):=hnv.out;have Lg:¬mv=0->(mv !=0)=true:=fun h=>by simpa using h
   clear hnv;rcases Ub with⟨rfl,rfl⟩|⟨rfl,Hs,rfl⟩|⟨Bi,rfl⟩
   ·clear Lg;cases hb
    all_goals
     go_wp2_with (first
      |(go_at_call 23;refine(Lf _ _ bl cl _ hE Ct Qc hI).mono ?_;rintro e w6 ⟨rfl,hF⟩
        replace hE:=hE.trans hF;replace hr:=hF.get hr;replace hI:=hI.ext hF;clear hF t0 t1 t2 t3 t4 Qc)
      |(go_at_call 39;refine(hhn _ _ _ hI).mono ?_;rintro e w7 ⟨rfl,hF⟩
        replace hE:=hE.trans hF;replace hr:=hF.get hr;replace hI:=hI.ext hF;clear hF))
     go_meet
     exact⟨hE,hr,hI⟩
   ·clear Lg Hs
    go_wp2_with (first
     |(go_at_call 23;refine(Lf _ _ bl cl _ hE Ct Qc hI).mono ?_;rintro e w6 ⟨rfl,hF⟩
       replace hE:=hE.trans hF;replace hr:=hF.get hr;replace hI:=hI.ext hF;clear hF t0 t1 t2 t3 t4 Qc)
     |(go_at_call 39;refine(hhn _ _ _ hI).mono ?_;rintro e w7 ⟨rfl,hF⟩
       replace hE:=hE.trans hF;replace hr:=hF.get hr;replace hI:=hI.ext hF;clear hF))
    go_meet
    exact⟨hE,hr,hI⟩
   ·have hmv3:=Lg Bi;clear Lg Bi;cases hb
    all_goals
     go_wp2_with (first
      |(go_at_call 23;refine(Lf _ _ bl cl _ hE Ct Qc hI).mono ?_;rintro e w6 ⟨rfl,hF⟩
        replace hE:=hE.trans hF;replace hr:=hF.get hr;replace hI:=hI.ext hF;clear hF t0 t1 t2 t3 t4 Qc)
      |(go_at_call 39;refine(hhn _ _ _ hI).mono ?_;rintro e w7 ⟨rfl,hF⟩
        replace hE:=hE.trans hF;replace hr:=hF.get hr;replace hI:=hI.ext hF;clear hF))
     go_meet
     exact⟨hE,hr,hI⟩
  ·have Ji:(f==0)=false:=beq_eq_false_iff_ne.2 hf;clear Az;go_wp2_with fail
   go_meet
   exact⟨hE,hr,hI⟩
 case rest=>
  obtain⟨Cd,Pq,Rg⟩:=hcut;clear hE hr hI hnv Lf Ot;obtain⟨q0,q1,q2,q3,q4⟩:=Zgj Pq;go_wp2_with fail;have hX:=(Ext.rfl' wc).alloc (.cells #[.int .i64 a,.int .i64 b,.int .i64 c,.int .i64 m,.slice (some ⟨bs,off,none⟩) n cap] 26);have B0:=Cd.trans hX;have Gw:=hX.get Pq;have hI5:=Rg.ext hX;have Ho:=(Z3 wc (.cells #[.int .i64 a,.int .i64 b,.int .i64 c,.int .i64 m,.slice (some ⟨bs,off,none⟩) n cap] 26) wc.heap.size).trans (if_pos rfl);have Kr:=hS.out.ext B0;have hob0:w.heap.size<wc.heap.size:=Z5 Pq
  have Jg:Hid (∀g o,bl=some ⟨g,o,none⟩->l≠[]->g<wc.heap.size):=fun g o e h0=>by
   obtain⟨x,t,ht⟩:∃x t,l=x::t:=by cases l with|nil=>exact absurd rfl h0|cons x t=>exact⟨x,t,rfl⟩
   obtain⟨b1,o1,e1,h1,_⟩:=Rg 0 x (by rw[ht];rfl);rw[e] at e1;cases e1;exact h1
  obtain⟨ob,E2⟩:∃ob,ob=wc.heap.size:=⟨_,rfl⟩;rw[<-E2] at Ho hob0 Jg;rw[<-E2];have hblo:Hid (∀g o,bl=some ⟨g,o,none⟩->l≠[]->g≠ob):=fun g o e h0=>by have:=Jg.out g o e h0;omega
  clear Jg hX Cd Pq Rg q0 q1 q2 q3 q4 E2;generalize World.alloc wc _=W5 at B0 Gw hI5 Ho Kr⊢;clear wc;have Uc:bs≠ob:=by omega
  go_loopw [23] (fun v23 wr=>∃i:Nat,i<=n/\v23= .int .i64 i/\Ext w wr/\wr.heap[w.heap.size]? =some (.cells #[.int .i64 a,.int .i64 b,.int .i64 c,.int .i64 m,.slice (some ⟨bs,off,none⟩) n cap] 26)/\RawI wr bl l/\∃(g o cp:Nat)(LL:List Sf),wr.heap[ob]? =some (.cells #[.int .i64 a,.int .i64 b,.int .i64 c,.int .i64 m,.slice (some ⟨g,o,none⟩) n cp] 26)/\g≠ob/\RawA wr (some ⟨g,o,none⟩) LL/\Hid (Gd L LL R i 0)) (fun v23 _=>n - (intOf v23).toNat)
  case atStart=>exact⟨0,Nat.zero_le _,rfl,B0,Gw,hI5,bs,off,cap,L,Ho,Uc,Kr,Gd.start L R⟩
  case round=>
   clear B0 Gw hI5 Ho Kr Uc;obtain⟨i,hi,rfl,hE,hr,hI,g,o,cp,LL,hb,Jp,hR,hG⟩:=hrel;obtain⟨q0,q1,q2,q3,q4⟩:=Zgj hr;by_cases Am:i=n
   ·replace Am:=Am.symm;subst Am;obtain⟨x0,x1,x2,x3,x4⟩:=Zgj hb
    go_wp2_with (first
     |(go_at_call 23;refine(h23c LL g o cp bl cl _ hE hG Ct hR hI).mono ?_;rintro e w6 ⟨rfl,hF⟩
       replace hE:=hE.trans hF;replace hr:=hF.get hr;replace hI:=hI.ext hF;clear hF x0 x1 x2 x3 x4 hb hR q0 q1 q2 q3 q4;obtain⟨q0,q1,q2,q3,q4⟩:=Zgj hr)
     |(go_at_call 32;refine(h32 bl cl _ hE Ct hI).mono ?_;rintro e w7 ⟨rfl,hF⟩
       replace hE:=hE.trans hF;clear hF)
     |(go_at_call 22;refine(Bg _ hE).mono ?_;rintro e w9 ⟨rfl,hF9⟩))
    go_ret;exact rfl
   ·have A3:(i:Int)<(n:Int):=(by omega);go_wp2_with fail;obtain⟨wo,rfl⟩:∃wo:World,wo=wr:=⟨_,rfl⟩;clear q0 q1 q2 q3 q4;go_loopw [24] (fun v24 wr=>∃v:Nat,v<=3/\v24= .int .i64 v/\Ext w wr/\wr.heap[w.heap.size]? =some (.cells #[.int .i64 a,.int .i64 b,.int .i64 c,.int .i64 m,.slice (some ⟨bs,off,none⟩) n cap] 26)/\RawI wr bl l/\∃(g o cp:Nat)(LL:List Sf),wr.heap[ob]? =some (.cells #[.int .i64 a,.int .i64 b,.int .i64 c,.int .i64 m,.slice (some ⟨g,o,none⟩) n cp] 26)/\g≠ob/\RawA wr (some ⟨g,o,none⟩) LL/\Hid (Gd L LL R i v)) (fun v24 _=>3 - (intOf v24).toNat)
    case atStart=>exact⟨0,by omega,rfl,hE,hr,hI,g,o,cp,LL,hb,Jp,hR,hG⟩
    case round=>
     clear hE hr hI hb Jp hR hG;obtain⟨v,hv,rfl,hE,hr,hI,g,o,cp,LL,hb,Jp,hR,hG⟩:=hrel;by_cases hv3:v=3
     ·subst hv3;have HN:Hid (Gd L LL R (i+1) 0):=hG.out.next;clear hG;go_wp2_with fail;exact⟨⟨i+1,by omega,by push_cast;rfl,hE,hr,hI,g,o,cp,LL,hb,Jp,hR,HN⟩,by simp[intOf];omega⟩
     ·have P4:(v:Int)<=2:=(by omega);obtain⟨q0,q1,q2,q3,q4⟩:=Zgj hr;have Ou:=fun W (hW:Ext wr W)=>h76 W i v (hE.trans hW) (by omega) (by omega)
      obtain⟨r,De⟩:∃z,z=R i v:=⟨_,rfl⟩;rw[<-De] at Ou;have T0:Hid (r=R i v):=De;clear De
      go_wp2_with (go_at_call 76;refine(Ou _ (Ext.rfl' _)).mono ?_;rintro e wp ⟨rfl,hF⟩
                   replace hE:=hE.trans hF;replace hr:=hF.get hr;replace hI:=hI.ext hF;replace hb:=hF.get hb;replace hR:=hR.ext hF;clear hF q0 q1 q2 q3 q4 Ou;obtain⟨q0,q1,q2,q3,q4⟩:=Zgj hr)
      obtain⟨x0,x1,x2,x3,x4⟩:=Zgj hb;have Ud:=fun W (hW:Ext wp W)=>h73l LL g o cp i v W (hE.trans hW) (by omega) (by omega) hG (hR.ext hW)
      rw[<-T0.out] at Ud;have g0:=Zet q0;have g1:=Zet q1;have gc2:=Zet q2;have g3:=Zet q3;have g4:=Zet q4;have kx0:=Zet x0;have kx1:=Zet x1;have kx2:=Zet x2;have kx3:=Zet x3;have kx4:=Zet x4;refine Zfn 11 10 26 [0,1,2,3,4,5,6,7,8] (.cells #[.int .i64 0,.int .i64 0,.int .i64 0,.int .i64 0,.slice none 0 0] 26) (by kernel_rfl) rfl (by kernel_rfl) rfl rfl (fun a W=>by simp[go_sem,execOp,Act.eval]) ?_;refine Zfj [0,1,2,3,4] (by kernel_rfl) rfl rfl (by kernel_rfl) ?_;simp only[ZeD,List.getElem?_cons_succ,List.getElem?_cons_zero,List.cons_append,List.nil_append]
      repeat (go_big_quiet_step (fail))
      refine wpQuiet_nil ?_;refine Zfr 5 (f:=34) (args:= #[.int .i64 r,.int .i64 r]) (v:= .agg #[.int .i64 r,.int .i64 r]) (by kernel_rfl) rfl rfl rfl (by kernel_rfl) rfl (fun W=>by simp[go_sem,execOp,Act.eval]) (fun W _=>Z3P r r W) ?_;go_simp;refine Zfk 6 rfl (by kernel_rfl) rfl (fun W hW=>Zfo (f:=73) (args:= #[.agg #[.int .i64 a,.int .i64 b,.int .i64 c,.int .i64 m,.slice (some ⟨g,o,none⟩) n cp],.int .i64 i,.int .i64 v,.agg #[.int .i64 r,.int .i64 r]]) (by simp[go_sem,execOp,Act.eval]) ?_);refine(Ud W hW).mono ?_;rintro e W2 ⟨g2,cp2,rfl,⟨cur,Gm⟩,Qd,I4⟩;refine⟨.tuple #[.agg #[.int .i64 a,.int .i64 b,.int .i64 c,.int .i64 m,.slice (some ⟨g2,0,none⟩) n cp2],.int .i64 0],rfl,I4,?_⟩;have M5:=hW.trans I4;clear I4 hW;obtain⟨Wc,rfl⟩:∃z,z=W:=⟨_,rfl⟩;go_simp;refine Zfj [7,8,9] (by kernel_rfl) rfl rfl (by kernel_rfl) ?_;simp only[ZeD,List.getElem?_cons_succ,List.getElem?_cons_zero,List.cons_append,List.nil_append]
      repeat (go_big_quiet_step (fail))
      refine wpQuiet_nil ?_;refine Zfq (by kernel_rfl) (fun W hW b hA Bh Ad=> ?_);obtain⟨bx,rfl⟩:∃bx,bx=b:=⟨_,rfl⟩;have Ar:=hW;clear hW;go_simp;refine Zfp 2 (by kernel_rfl) (fun W hW=> ?_);simp only[List.drop_succ_cons,List.drop_zero];replace Ad:=hW.get Ad;have hF:=(M5.trans Ar).trans hW;replace Qd:=Qd.ext (Ar.trans hW);have Ee:=(Ar.trans hW).get Gm;have Cm:wp.heap.size<=bx:=hA.1
      have A8:g2≠bx:=fun e=>by
       rw[e] at Ee;rw[Ad] at Ee;injection Ee with Ee;injection Ee with h1 h2 h3;exact absurd h2 (by decide)
      have Ah:g2≠ob:=fun e=>by
       rw[e] at Ee;rw[hF.get hb] at Ee;injection Ee with Ee;injection Ee with h1 h2 h3;exact absurd h2 (by decide)
      have Ue:=Z5 hb;have hrlt:=Z5 hr;have Fq:ob≠bx:=(by omega);have hX:=ZiD Ad (.int .i64 a) (.int .i64 b) (.int .i64 c) (.int .i64 m) (.slice (some ⟨g2,0,none⟩) n cp2);have Uf:=ZiE hF Cm (.int .i64 a) (.int .i64 b) (.int .i64 c) (.int .i64 m) (.slice (some ⟨g2,0,none⟩) n cp2);have Vn:=ZkJ Qd (ZiG W (b:=bx) (show g2≠bx from A8) (.int .i64 a) (.int .i64 b) (.int .i64 c) (.int .i64 m) (.slice (some ⟨g2,0,none⟩) n cp2));have Cw:=hE.trans Uf;have Gx:=Uf.get hb;have Hf:=Uf.get hr;have Vo:=hI.ext Uf;obtain⟨k0,k1,k2,k3,k4⟩:=Zgj Ad;obtain⟨f0,f1,f2,f3,f4⟩:=ZiJ Ad;clear hE hb hr hI M5 Ar hF hW hA Bh Qd Gm Ee Uf Ad q0 q1 q2 q3 q4 x0 x1 x2 x3 x4 g0 g1 gc2 g3 g4 kx0 kx1 kx2 kx3 kx4;unfold ZjW at hX Vn Cw Gx Hf Vo;go_wp2_with fail;generalize World.setCell _ _ _=Y at hX Vn Cw Gx Hf Vo⊢;clear k0 k1 k2 k3 k4 f0 f1 f2 f3 f4;refine Zfm ?_;obtain⟨s0,s1,s2,s3,s4⟩:=Zgj hX;obtain⟨x0,x1,x2,x3,x4⟩:=Zgj Gx;obtain⟨f0,f1,f2,f3,f4⟩:=ZiJ Gx;obtain⟨q0,q1,q2,q3,q4⟩:=Zgj Hf;have hEZ:=ZiE Cw (show w.heap.size<=ob by omega) (.int .i64 a) (.int .i64 b) (.int .i64 c) (.int .i64 m) (.slice (some ⟨g2,0,none⟩) n cp2);have hbZ:=ZiD Gx (.int .i64 a) (.int .i64 b) (.int .i64 c) (.int .i64 m) (.slice (some ⟨g2,0,none⟩) n cp2)
      have hrZ:=(ZiG Y (b:=ob) (show w.heap.size≠ob by omega) (.int .i64 a) (.int .i64 b) (.int .i64 c) (.int .i64 m) (.slice (some ⟨g2,0,none⟩) n cp2)).trans Hf;have hRZ:=ZkJ Vn (ZiG Y (b:=ob) Ah (.int .i64 a) (.int .i64 b) (.int .i64 c) (.int .i64 m) (.slice (some ⟨g2,0,none⟩) n cp2));have hIZ:RawI (ZjW Y ob (.int .i64 a) (.int .i64 b) (.int .i64 c) (.int .i64 m) (.slice (some ⟨g2,0,none⟩) n cp2)) bl l:=Zmh Vo hblo.out (.int .i64 a) (.int .i64 b) (.int .i64 c) (.int .i64 m) (.slice (some ⟨g2,0,none⟩) n cp2);have HN:Hid (Gd L (Zla LL i v (r,r)) R i (v+1)):=(by have:=hG.out.step (show v<3 by omega);rw[<-T0.out] at this;exact this);unfold ZjW at hEZ hbZ hrZ hRZ hIZ;clear Cw Gx Hf Vn Vo hX Ue hrlt Jp;go_wp2_with fail;exact⟨⟨v+1,by omega,by push_cast;rfl,hEZ,hrZ,hIZ,g2,0,cp2,_,hbZ,Ah,hRZ,HN⟩,by simp[intOf];omega⟩
end Go.Proofs.Tryq
namespace Go.Proofs.Tryq
open Go Go.Nk Go.RowKit
set_option linter.all false
theorem Zmc(s n:Nat):Int.tmod (s:Int) (n:Int)=((s % n:Nat):Int):=by rw[Int.tmod_eq_emod_of_nonneg (by omega)];push_cast;rfl
theorem Zmi{a b c m:Int}{L:List Sf}(hs:Zp a b c m L=0){i:Nat}(hi:i<L.length):Zo a b c m L [(i:Int)]=0:=by rw[ZhG,if_pos hs,if_pos (by omega)]
theorem Zm1(a b c m bt sh8 wh8 p q:Int)(base:Option Addr)(n cap:Nat)(L:List Sf)(pb:Option Addr)(pn pc:Nat)(pk:List Int)(w:World)(A2:L.length=n)(Bu:0<=bt/\bt<65536)(Kv:0<=sh8/\sh8<256)(hw8:0<=wh8/\wh8<256)(Lp:pk.length=pn)(hu:∀x∈pk,0<=x/\x<65536)(hM:Meas w)(Dq:Most w)(hd:Deb w)(hS:RawA w base L)(hl:RawU w pb pk):
 Calls prog 17 #[.agg #[.int .i64 a,.int .i64 b,.int .i64 c,.int .i64 m,.slice base n cap],.int .u16 bt,.int .u8 sh8,.int .u8 wh8,.agg #[.int .i64 p,.int .i64 q],.slice pb pn pc] w fun e w'=>e= .returned (.bool true):=by
 have Mq:=fun W hW=>Zfd a b c m base n cap L W A2 (hS.ext hW)
 have Bg:∀W,Ext w W->Calls prog 22 #[] W fun e w'=>e= .returned (.bool true)/\Ext W w':=fun W (hW:Ext w W)=>Zce W (hM.ext hW) (Dq.ext hW) (hd.ext hW)
 by_cases h0:Zfc a b c m L=true->n=0
 ·exact Zmk a b c m bt sh8 wh8 p q base n cap pb pn pc w _ h0 Mq Bg
 ·have hf:Zfc a b c m L=true:=by
   cases hf:Zfc a b c m L with
   |true=>rfl
   |false=>exact absurd (fun h=>by rw[hf] at h;cases h) h0
  have Hs:¬n=0:=fun h=>h0 fun _=>h
  rw[hf] at Mq;clear h0;have hs:Zp a b c m L=0:=by
   have:Z1B L=false/\Zp a b c m L=0:=by simpa[Zfc] using hf
   exact this.2
  have Az:=ZlF hs;have h9:=Az.len;obtain⟨s,rfl⟩:=Int.eq_ofNat_of_zero_le Kv.1;obtain⟨t,rfl⟩:=Int.eq_ofNat_of_zero_le hw8.1;have hK:s % n<n:=Nat.mod_lt _ (by omega);have hV:t % 3<3:=Nat.mod_lt _ (by omega);have eK:=Zmc s n;have eV:=Zmc t 3;generalize s % n=K at hK eK;generalize t % 3=V at hV eV;obtain⟨x,hx⟩:∃x,L[K]? =some x:=⟨_,List.getElem?_eq_getElem (by omega)⟩;obtain⟨bs,off,rfl,D8,_⟩:=hS K x hx;have Pj:=ZeY bt n;have hz:=Zew bt n;have Nz:=ZeN bt n;have Am:∀i∈ZeL bt n,0<=i/\i<L.length:=fun i hi=>by rw[A2];exact Pj.2 i hi
  obtain⟨R5,Vl⟩:=Zm9 Az pk;have Cb:∀(LL:List Sf)(ao:Option Addr)(cp:Nat) bl cl W,Ext w W->Zp a b c m LL=0->LL.length=n->(ZeL bt n).length<=cl->RawA W ao LL->RawI W bl (ZeL bt n)->Calls prog 23 #[.agg #[.int .i64 a,.int .i64 b,.int .i64 c,.int .i64 m,.slice ao n cp],.slice bl (ZeL bt n).length cl] W fun e w'=>e= .returned (.tuple #[.int .i64 (Zr (apA a b c LL (ZeL bt n))),.int .i64 0])/\Ext W w':=by
   intro LL ao cp bl cl W hW hs hL Ct hR hI;have:=Z5Y a b c m ao n cp LL bl (ZeL bt n).length cl (ZeL bt n) W hL (by omega) rfl Ct (by omega) (hM.ext hW) hR hI;rw[Zeu hs (by rw[hL];exact hz),show Zo a b c m LL (ZeL bt n)=0 by rw[Zo,hL,hz,hs];rfl] at this;exact this
  obtain⟨mb,Mm⟩:∃mb:Bool,mb=true↔Mtd a b c (ZlZ L pk) (ZeL bt n):=by
   by_cases h:Mtd a b c (ZlZ L pk) (ZeL bt n)
   ·exact⟨true,⟨fun _=>h,fun _=>rfl⟩⟩
   ·exact⟨false,⟨fun e=>(by cases e),fun e=>absurd e h⟩⟩
  have main:∀(L1:List Sf)(_:Zp a b c m L1=0)(_:L1.length=n)
   (_:(Zr (apA a b c L (ZeL bt n))≠0->Zr (apA a b c L1 (ZeL bt n))=Zr (apA a b c L (ZeL bt n)))/\(¬(K:Int)∈ZeL bt n->Zr (apA a b c L1 (ZeL bt n))=Zr (apA a b c L (ZeL bt n))))
   (_:∀W,Ext w W->Calls prog 73 #[.agg #[.int .i64 a,.int .i64 b,.int .i64 c,.int .i64 m,.slice (some ⟨bs,off,none⟩) n cap],.int .i64 K,.int .i64 V,.agg #[.int .i64 p,.int .i64 q]] W fun e w'=>∃(f a' b' c' m':Int)(ao:Option Addr)(n' cp':Nat),e= .returned (.tuple #[.agg #[.int .i64 a',.int .i64 b',.int .i64 c',.int .i64 m',.slice ao n' cp'],.int .i64 f])/\Ext W w'/\Hid (f=0->a=a'/\b=b'/\c=c'/\m=m'/\n=n'/\RawA w' ao L1)),
   Calls prog 17 #[.agg #[.int .i64 a,.int .i64 b,.int .i64 c,.int .i64 m,.slice (some ⟨bs,off,none⟩) n cap],.int .u16 bt,.int .u8 s,.int .u8 t,.agg #[.int .i64 p,.int .i64 q],.slice pb pn pc] w fun e w'=>e= .returned (.bool true):=by
   intro L1 C6 C2 Ca Ot;refine Zme a b c m bt s t p q bs off n cap pb pn pc w D8 (by omega) (by omega) L hS (ZeL bt n) (ZeL bt n).length K V eK eV hV Kv hw8 (Zr (apA a b c L (ZeL bt n))) (Zr (apA a b c L1 (ZeL bt n))) (if mb=true then 1 else 2) (decide ((K:Int)∈ZeL bt n)) mb L1 (ZlZ L pk) ?_ ?_ ?_ Mq (fun W hW=> ?_) (fun bl cl W hW Ct hI=> ?_) Ot (fun ao cp bl cl W hW Ct hR hI=> ?_) (fun bl cl W hI=> ?_) (fun W i v hW hi hv=> ?_) (fun LL g o cp i v W hW hi hv hG hR=> ?_) (fun LL g o cp bl cl W hW hG Ct hR hI=> ?_) (fun bl cl W hW Ct hI=> ?_) Bg
   ·show _\/_\/_;by_cases e:Zr (apA a b c L (ZeL bt n))=0
    ·by_cases e1:Zr (apA a b c L1 (ZeL bt n))=0
     ·exact .inl ⟨e,e1⟩
     ·refine .inr (.inl ⟨e,e1,decide_eq_true (Classical.byContradiction fun h=>e1 ?_)⟩);rw[Ca.2 h,e]
    ·exact .inr (.inr ⟨e,Ca.1 e⟩)
   ·cases mb<;>rfl
   ·cases mb<;>rfl
   ·refine(ZeT a b c m bt (some ⟨bs,off,none⟩) n cap W (by omega) Bu).mono ?_;rintro e w2 ⟨x,rfl,hx,hE⟩;obtain⟨bl,cl,rfl,hI,Ct⟩:=hx.rawI;exact⟨bl,cl,rfl,Ct,hI,hE⟩
   ·exact Cb L _ cap bl cl W hW hs A2 Ct (hS.ext hW) hI
   ·exact Cb L1 ao cp bl cl W hW C6 C2 Ct hR hI
   ·exact Zhj bl _ cl (ZeL bt n) K W rfl (by omega) hI
   ·obtain⟨y,hy⟩:∃y,L[i]? =some y:=⟨_,List.getElem?_eq_getElem (by omega)⟩;obtain⟨b2,o2,e2,An,sy,_⟩:=hS i y hy;obtain⟨rfl,rfl⟩:bs=b2/\off=o2:=(by simpa using e2);have:=Zma a b c m bs off n cap y i v pb pn pc pk W (hW.lt An) hi (by omega) hv (sy.ext hW) (Az.ok y (List.mem_of_getElem? hy) v) Lp hu (hl.ext hW);rw[ZlZ,hy];exact this
   ·have hsL:=hG.out.stock hs R5;have hlL:LL.length=n:=hG.out.1.trans A2;obtain⟨y,hy⟩:∃y,L[i]? =some y:=⟨_,List.getElem?_eq_getElem (by omega)⟩;obtain⟨y',hy'⟩:∃y,LL[i]? =some y:=⟨_,List.getElem?_eq_getElem (by omega)⟩;have Fr:=hG.out.at hv hy hy';have Dz:=R5 i y hy v hv;have Cx:=Vl i v;have:=Zl2 a b c m (ZlZ L pk i v) (ZlZ L pk i v) (spA y' v).1 (spA y' v).2 (ZlZ L pk i v) (ZlZ L pk i v) g o n cp LL y' i v W hlL (by omega) (hM.ext hW) hR (Zmi hsL (by omega)) hi hv ⟨Cx.1,Int.le_refl _,Cx.2⟩ hy' rfl rfl (by rw[Fr];omega) (by rw[Fr];omega);refine this.mono ?_;rintro e w2 ⟨_,h1,hE⟩;obtain⟨g2,cp2,rfl,_,_,Gm,Qd⟩:=h1 (Int.le_refl _);exact⟨g2,cp2,rfl,Gm,Qd,hE⟩
   ·have hsL:=hG.out.stock hs R5;have hlL:LL.length=n:=hG.out.1.trans A2;have hdn:=Gd.done hs (by rw[A2];exact hG.out) Pj.1 Am;have:=Cb LL _ cp bl cl W hW hsL hlL Ct hR hI;have e:Zr (apA a b c LL (ZeL bt n))=if mb=true then 1 else 2:=by
     rcases hdn with⟨h1,h2⟩|⟨h1,h2⟩
     ·rw[h1,if_pos (Mm.2 h2)]
     ·rw[h1,if_neg fun h=>h2 (Mm.1 h)]
    rw[e] at this;exact this
   ·exact Zm6 a b c m (some ⟨bs,off,none⟩) n cap L (ZeL bt n) bl _ cl pb pn pc pk mb W hs A2 (hS.ext hW) rfl (by omega) Pj.2 Mm hI Lp hu (hl.ext hW)
  have Bc:∀f:Int,f≠0->(∀W,Ext w W->Calls prog 73 #[.agg #[.int .i64 a,.int .i64 b,.int .i64 c,.int .i64 m,.slice (some ⟨bs,off,none⟩) n cap],.int .i64 K,.int .i64 V,.agg #[.int .i64 p,.int .i64 q]] W fun e w'=>e= .returned (.tuple #[.agg #[.int .i64 0,.int .i64 0,.int .i64 0,.int .i64 0,.slice none 0 0],.int .i64 f])/\Ext W w')->Calls prog 17 #[.agg #[.int .i64 a,.int .i64 b,.int .i64 c,.int .i64 m,.slice (some ⟨bs,off,none⟩) n cap],.int .u16 bt,.int .u8 s,.int .u8 t,.agg #[.int .i64 p,.int .i64 q],.slice pb pn pc] w fun e w'=>e= .returned (.bool true):=by
   intro f hf h;refine main L hs A2 ⟨fun _=>rfl,fun _=>rfl⟩ fun W hW=>(h W hW).mono ?_
   rintro e w2 ⟨rfl,hE⟩;exact⟨f,0,0,0,0,none,0,0,rfl,hE,fun e=>absurd e hf⟩
  have h0:=Zmi hs (i:=K) (by omega);have hok2:=Az.ok x (List.mem_of_getElem? hx) V;by_cases G5:0<=p/\p<=q/\q<=9999
  ·have Ot:=fun W (hW:Ext w W)=>Zl2 a b c m p q (spA x V).1 (spA x V).2 (max (spA x V).1 p) (min (spA x V).2 q) bs off n cap L x K V W A2 (by omega) (hM.ext hW) (hS.ext hW) h0 hK hV G5 hx rfl rfl rfl rfl
   by_cases hUV:min (spA x V).2 q<max (spA x V).1 p
   ·refine Bc 10 (by decide) fun W hW=>(Ot W hW).mono ?_
    rintro e w2 ⟨h1,_,hE⟩;exact⟨h1 hUV,hE⟩
   ·refine main (Zla L K V (max (spA x V).1 p,min (spA x V).2 q)) (Zml hV (by simp only;omega) hs) (by rw[Zlb];exact A2) ?_ fun W hW=>(Ot W hW).mono ?_
    ·have:=Zmg hs hV (p:=(max (spA x V).1 p,min (spA x V).2 q)) (i:=K) (by simp only;omega) (fun y hy=>by rw[hx] at hy;cases hy;simp only;omega) Pj.1;exact⟨this.1,fun h=>this.2 h fun j hj=>(Am j hj).1⟩
    ·rintro e w2 ⟨_,h1,hE⟩;obtain⟨g,cp,rfl,_,_,_,hR⟩:=h1 (by omega);exact⟨0,a,b,c,m,some ⟨g,0,none⟩,n,cp,rfl,hE,fun _=>⟨rfl,rfl,rfl,rfl,rfl,hR⟩⟩
  ·exact Bc 1 (by decide) fun W hW=>Zl1 a b c m p q (some ⟨bs,off,none⟩) n cap L W A2 (by omega) (hM.ext hW) (hS.ext hW) K V h0 (by omega) G5
end Go.Proofs.Tryq
section
set_option maxRecDepth 100000
namespace Go.Proofs.YtedkbdkbbnemlaaGreatDoor
open Go
namespace JarrowKnown
theorem k0:Rows.arrowKnownRow.wf (OpenSpec.ofChange Rows.arrowKnownSpec)=true:=by kernel_rfl
theorem k1:laidOutB Tryz.prog=true:=by kernel_rfl
theorem k2:mapsRowed Tryz.prog=true:=by kernel_rfl
theorem k3:Tryz.f17.params.all (Tryz.prog.readableRec ·)=true:=by kernel_rfl
theorem k4:namedTie Tryz.prog Rows.arrowKnownRow.named Rows.arrowKnownSpec.vars=true:=by kernel_rfl
theorem k5:(Rows.arrowKnownRow.stops==[])=true:=by kernel_rfl
theorem k6:(Tryz.prog.stops==[])=true:=by kernel_rfl
theorem k7:(Rows.arrowKnownRow.knobs==[])=true:=by kernel_rfl
theorem k8:(Tryz.prog.stopKnobs==[])=true:=by kernel_rfl
theorem k9:(Rows.arrowKnownRow.inPlace==Tryz.prog.inPlace 17)=true:=by kernel_rfl
theorem k10:(Rows.arrowKnownRow.unfollowed==Tryz.prog.unfollowed 17)=true:=by kernel_rfl
theorem k11:(Rows.arrowKnownRow.recurses==Tryz.prog.recurses 17)=true:=by kernel_rfl
theorem k12:(Rows.arrowKnownRow.named==Tryz.prog.varsNamed 17)=true:=by kernel_rfl
theorem k13:(Rows.arrowKnownRow.maps==(Tryz.f17.params.toList++Rows.arrowKnownSpec.plain.varTypes Tryz.prog).any (Tryz.prog.mapsRec ·))=true:=by kernel_rfl
theorem k14:(Rows.arrowKnownRow.ifaces==(Tryz.f17.params.toList++Rows.arrowKnownSpec.plain.varTypes Tryz.prog).any (Tryz.prog.ifacesRec ·))=true:=by kernel_rfl
theorem k15:(Rows.arrowKnownRow.mapsOut==Tryz.prog.mapsAmong Tryz.f17.resultTypes.toList)=true:=by kernel_rfl
theorem k16:(Rows.arrowKnownRow.loops==(Tryz.f17.params.toList++Rows.arrowKnownSpec.plain.varTypes Tryz.prog).any (Tryz.prog.loopsFrom ·))=true:=by kernel_rfl
theorem k17:(Rows.arrowKnownRow.wideKeys==(Tryz.f17.params.toList++Rows.arrowKnownSpec.plain.varTypes Tryz.prog++Tryz.f17.resultTypes.toList).any (Tryz.prog.wideKeysFrom ·))=true:=by kernel_rfl
theorem k18:Rows.arrowKnownSpec.vars.all (Tryz.prog.varReadable ·)=true:=by kernel_rfl
theorem k19:Tryz.f17.resultTypes.all (fun t=>Tryz.prog.readableRec t&&decide (t<Tryz.prog.types.size))=true:=by kernel_rfl
theorem k20:(Rows.arrowKnownRow.ifacesOut==Tryz.f17.resultTypes.toList.any (Tryz.prog.ifacesRec ·))=true:=by kernel_rfl
theorem k21:(Rows.arrowKnownRow.loopsOut==Tryz.f17.resultTypes.toList.any (Tryz.prog.loopsFrom ·))=true:=by kernel_rfl
theorem k22:(Rows.arrowKnownRow.plainKeys==Tryz.prog.plainKeys)=true:=by kernel_rfl
theorem k23:Rows.arrowKnownRow.shortTexts.isNone=true:=by kernel_rfl
theorem k24:Tryz.prog.stopsHeard=true:=by kernel_rfl
theorem k25:Tryz.prog.mayEnter=true:=by kernel_rfl
theorem k26:(Rows.arrowKnownRow.lifted==Tryz.prog.liftsFinal)=true:=by kernel_rfl
theorem k27:(Tryz.prog.make==some Rows.arrowKnownRow.make)=true:=by kernel_rfl
theorem k28:(Rows.arrowKnownRow.kinds==(if Rows.arrowKnownRow.domain.isEmpty then[] else Tryz.f17.params.toList.map fun t=>match Tryz.prog.underlying t with|some (.int k)=>some k|_=>none))=true:=by kernel_rfl
theorem k29:(Rows.arrowKnownRow.pinned==Rows.arrowKnownRow.pinnedBy)=true:=by kernel_rfl
theorem k30:(Rows.arrowKnownRow.veiled==(Tryz.f17.params.toList++Rows.arrowKnownSpec.plain.varTypes Tryz.prog++Tryz.f17.resultTypes.toList).any (Tryz.prog.veiledRec ·))=true:=by kernel_rfl
theorem k31:Rows.arrowKnownRow.veiledFits Tryz.prog Tryz.f17.params.toList (Tryz.f17.params.toList++Rows.arrowKnownSpec.plain.varTypes Tryz.prog++Tryz.f17.resultTypes.toList)=true:=by kernel_rfl
theorem ZI{a b:Bool}(ha:a=true)(hb:b=true):(a&&b)=true:=by rw[ha,hb];rfl
theorem facts:joinedFacts Tryz.prog 17 Tryz.f17 Rows.arrowKnownSpec Rows.arrowKnownRow=true:=(ZI (ZI (ZI (ZI (ZI (ZI (ZI (ZI (ZI (ZI (ZI (ZI (ZI (ZI (ZI (ZI (ZI (ZI (ZI (ZI (ZI (ZI (ZI (ZI (ZI (ZI (ZI (ZI (ZI (ZI (ZI k0 k1) k2) k3) k4) k5) k6) k7) k8) k9) k10) k11) k12) k13) k14) k15) k16) k17) k18) k19) k20) k21) k22) k23) k24) k25) k26) k27) k28) k29) k30) k31)
end JarrowKnown
end Go.Proofs.YtedkbdkbbnemlaaGreatDoor
end
namespace Go.Proofs.Tryq
set_option maxRecDepth 100000
open Go Go.Nk Go.RowKit Go.ChangeShapes Go.WideShapes Go.ChangeAt Go.Conc Go.Deep
attribute [local instance] theBan
section
variable {H:Type} {enc:TypeId×Value->H} {W:World} {b0:Nat}
theorem Zf4{t:TypeId}{k:IntKind}(hu:Tryz.prog.underlying t=some (.int k))(hs:isS Tryz.prog t=false)(ha:isA Tryz.prog t=false)(hl:(Z3e Tryz.prog 0 t 0).any (fun y=>y.1==0&&y.2==t)=true)(E9:Tryz.prog.cellsOf t=1){v:Value}{d:DataW H}{p:List MemPlace}(hv:Value.okWide Tryz.prog W .any b0 t v)(h:DataW.Trod enc Tryz.prog W 0 (fun _=>true) true t v d p):
 ∃n:Int,v= .int k n/\(Lit.int k n).wf=true/\VRel id (Nk.Live (Zx W)) v v:=by
 have hc:=Zei hv hs ha;obtain⟨fuel,hf⟩:=h;have e:v.cells.toList=[v]:=by
  cases v<;>first|rfl|skip
  rename_i cs;simp[Cell.okWide,Cell.ok,hu] at hc
 rw[e] at hf;have Ae:[v].length<=Tryz.prog.cellsOf t:=by rw[E9];exact Nat.le_refl _
 obtain⟨x1,e1,hw⟩:=Z0z (n:=0) (o:=0) (u:=t) Ae ⟨_,_,hf⟩ hl hu;obtain rfl:v= .int k x1:=by simpa using e1
 exact⟨x1,rfl,hw,.int _ _⟩
theorem Zf7{n:Int}(h:(Lit.int .u16 n).wf=true):0<=n/\n<65536:=by
 have h1:IntKind.u16.min=0:=rfl;have h2:IntKind.u16.max=65535:=rfl;simp only[Lit.wf,Bool.and_eq_true,decide_eq_true_eq] at h;omega
theorem Zgg{n:Int}(h:(Lit.int .u8 n).wf=true):0<=n/\n<256:=by
 have h1:IntKind.u8.min=0:=rfl;have h2:IntKind.u8.max=255:=rfl;simp only[Lit.wf,Bool.and_eq_true,decide_eq_true_eq] at h;omega
theorem under40:Tryz.prog.underlying 40=some (.int .u16):=by kernel_rfl
theorem ZeQ{v:Value}{d:DataW H}{p:List MemPlace}(hv:Value.okWide Tryz.prog W .any b0 40 v)(h:DataW.Trod enc Tryz.prog W 0 (fun _=>true) true 40 v d p):∃n:Int,v= .int .u16 n/\(Lit.int .u16 n).wf=true/\VRel id (Nk.Live (Zx W)) v v:=
 Zf4 under40 (by kernel_rfl) (by kernel_rfl) (by kernel_rfl) (by kernel_rfl) hv h
theorem ZfW{v:Value}{d:DataW H}{p:List MemPlace}(hv:Value.okWide Tryz.prog W .any b0 5 v)(h:DataW.Trod enc Tryz.prog W 0 (fun _=>true) true 5 v d p):∃n:Int,v= .int .u8 n/\(Lit.int .u8 n).wf=true/\VRel id (Nk.Live (Zx W)) v v:=
 Zf4 under5 (by kernel_rfl) (by kernel_rfl) (by kernel_rfl) (by kernel_rfl) hv h
end
section
variable {H:Type} {enc:TypeId×Value->H} {W:World} {b0:Nat}
theorem under41:Tryz.prog.underlying 41=some (.slice 40):=by kernel_rfl
theorem cells40:Tryz.prog.cellsOf 40=1:=by kernel_rfl
theorem Zgs{v:Value}{d:DataW H}{p:List MemPlace}(hv:Value.okWide Tryz.prog W .any b0 41 v)(h:DataW.Trod enc Tryz.prog W 0 (fun _=>true) true 41 v d p):
 ∃(base:Option Addr)(n cap:Nat)(l:List Int),v= .slice base n cap/\l.length=n/\n<=cap/\cap<=maxLen/\VRel id (Nk.Live (Zx W)) v v/\RawU W base l/\∀y∈l,(Lit.int .u16 y).wf=true:=by
 have hc:=Zei hv (by kernel_rfl) (by kernel_rfl);obtain⟨fuel,hf⟩:=h;have e:v.cells.toList=[v]:=by
  cases v<;>first|rfl|skip
  rename_i cs;unfold Cell.okWide at hc;simp only[under41] at hc;exact hc.elim
 rw[e] at hf;obtain⟨base,n,cap,e,hn,hm,hr,Ps⟩:=Z5V under41 cells40 (by decide) ⟨_,hc⟩ hf;have key:∀i,i<n->∃x:Int,(∃b off,base=some ⟨b,off,none⟩/\b<W.heap.size/\W.cell? ⟨b,off+i,none⟩=some (.int .u16 x))/\(Lit.int .u16 x).wf=true:=by
  intro i hi;obtain⟨b,off,h1,h2,cs,h3,h4,h5⟩:=Ps i hi;have Ae:cs.length<=Tryz.prog.cellsOf 40:=by rw[cells40];omega
  obtain⟨x1,e1,hw⟩:=Z0z (n:=0) (o:=0) (u:=40) Ae h5 (by kernel_rfl) under40;have:=(h4 0 (by omega)).trans e1;rw[Nat.mul_one,Nat.add_zero] at this;exact⟨x1,⟨b,off,h1,h2,this⟩,hw⟩
 obtain⟨L,C2,Pr⟩:=Zaa n key;exact⟨base,n,cap,L,e,C2,hn,hm,hr,fun i x hx=>(Pr i x hx).1,fun y hy=>by obtain⟨i,hi⟩:=List.mem_iff_getElem?.1 hy;exact(Pr i y hi).2⟩
end
theorem Zgt{W:World}{base:Option Addr}{l:List Int}(h:RawU W base l):RawU (Zx W) base l:=fun i x hi=>by
 obtain⟨b,off,h1,h2,h3⟩:=h i x hi;exact⟨b,off,h1,by rw[Z1l];exact h2,Z0d rfl h3 rfl⟩
theorem Zgy{W:World}(t){base:Option Addr}{l:List Int}(h:RawU W base l):RawU (retape t W) base l:=fun i x hi=>by
 obtain⟨b,off,h1,h2,h3⟩:=h i x hi;exact⟨b,off,h1,h2,h3⟩
theorem cells48:Tryz.prog.cellsOf 48=2:=by kernel_rfl
theorem arr2{cs:Array Value}{a b:Value}(hs:cs.size=2)(h0:cs.toList[0]? =some a)(h1:cs.toList[1]? =some b):cs= #[a,b]:=by
 rcases cs with⟨l⟩
 match l,hs,h0,h1 with
 |[w,x],_,h0,h1=>
  simp at h0 h1;rw[h0,h1]
section
variable {H:Type} {enc:TypeId×Value->H} {W:World} {b0:Nat}
theorem Zl8{v:Value}{d:DataW H}{p:List MemPlace}(hv:Value.okWide Tryz.prog W .any b0 48 v)(h:DataW.Trod enc Tryz.prog W 0 (fun _=>true) true 48 v d p):
 ∃a b:Int,v= .agg #[.int .i64 a,.int .i64 b]/\VRel id (Nk.Live (Zx W)) v v:=by
 obtain⟨cs,rfl,hs,hx⟩:=ZiU hv (by kernel_rfl);obtain⟨fuel,hf⟩:=h;have hf:DataW.trod enc Tryz.prog W 0 (fun _=>true) true fuel 48 cs.toList=some (d,p):=hf;rw[cells48] at hs;have Ae:cs.toList.length<=Tryz.prog.cellsOf 48:=by rw[cells48];simp[hs]
 obtain⟨x0,e0,w0⟩:=Z0z (n:=3) (o:=0) (u:=3) Ae ⟨_,_,hf⟩ (by kernel_rfl) under3;obtain⟨x1,e1,w1⟩:=Z0z (n:=3) (o:=1) (u:=3) Ae ⟨_,_,hf⟩ (by kernel_rfl) under3;have hcs4:=arr2 hs e0 e1;subst hcs4;have hA:AR id (Nk.Live (Zx W)) #[.int .i64 x0,.int .i64 x1] #[.int .i64 x0,.int .i64 x1]:=(AR.nil.push (.int _ _)).push (.int _ _);exact⟨x0,x1,rfl,.agg hA.1 hA.2⟩
end
section
variable {H:Type} {enc:TypeId×Value->H} {W:World} {b0:Nat}
theorem Zm7{P:Program}{w:World}{base:Nat}{spare:Nat->Bool}{held:Bool}{t t' t'' t3 t4 t5:TypeId}{args:Array Value}{ds:List (DataW H)}{ps:List MemPlace}(h:DataW.TrodAll enc P w base spare held [t,t',t'',t3,t4,t5] args.toList ds ps):
 ∃v v' v'' v3 v4 v5 d d' d'' d3 d4 d5 p p' p'' p3 p4 p5,args= #[v,v',v'',v3,v4,v5]/\ds=[d,d',d'',d3,d4,d5]/\ps=p++p'++p''++p3++p4++p5/\DataW.Trod enc P w base spare held t v d p/\DataW.Trod enc P w base spare held t' v' d' p'/\DataW.Trod enc P w base spare held t'' v'' d'' p''/\DataW.Trod enc P w base spare held t3 v3 d3 p3/\DataW.Trod enc P w base spare held t4 v4 d4 p4/\DataW.Trod enc P w base spare held t5 v5 d5 p5:=by
 obtain⟨v,vs,d,ds',p,q,I8,rfl,rfl,hd,Ug⟩:=trodAll_cons h;obtain⟨v',vs',d',ds'',p',q',rfl,rfl,rfl,hd',Ov⟩:=trodAll_cons Ug;obtain⟨v'',vs'',d'',ds''',p'',q'',rfl,rfl,rfl,hd'',Lh⟩:=trodAll_cons Ov;obtain⟨v3,vs3,d3,ds3,p3,q3,rfl,rfl,rfl,hd3,Ow⟩:=trodAll_cons Lh;obtain⟨v4,vs4,d4,ds4,p4,q4,rfl,rfl,rfl,hd4,Ox⟩:=trodAll_cons Ow;obtain⟨v5,vs5,d5,ds5,p5,q5,rfl,rfl,rfl,hd5,Oy⟩:=trodAll_cons Ox;obtain⟨rfl,rfl,rfl⟩:=trodAll_nil Oy;exact⟨v,v',v'',v3,v4,v5,d,d',d'',d3,d4,d5,p,p',p'',p3,p4,p5,by cases args;simp_all,rfl,by simp,hd,hd',hd'',hd3,hd4,hd5⟩
end
end Go.Proofs.Tryq
namespace Go.Proofs.YtedkbdkbbnemlaaGreatDoor
set_option maxRecDepth 100000
open Go Go.Nk Go.RowKit Go.ChangeShapes Go.WideShapes Go.ChangeAt Go.Conc
open Go.Proofs.Tryq
attribute [local instance] theBan
theorem Zm0(os:Os)(started:os.Started)(H:Type)(enc:TypeId×Value->H):
 ReturnsInLeavingWide {} Tryz.checked os 17 .any (fun w args=>(Rows.arrowKnownSpec.pre enc Tryz.prog Tryz.f17 [] false w args/\laidMetH Tryz.prog laidL w)/\sizedMet enc Tryz.prog Tryz.f17 (OpenSpec.ofChange Rows.arrowKnownSpec) false w args)
  (Rows.arrowKnownSpec.post enc Tryz.prog Tryz.f17 false true false false):=by
 refine Z4e (n:=6) (ts:=[26,40,5,5,48,41]) started (by simp[keptList]) Tryz.func17 same17 (by kernel_rfl) Tryz.results17 (by kernel_rfl) (by rw[Tryz.params17]) rfl rfl (by kernel_rfl) (fun ds hd=>by
  match ds,hd with
  |[_,_,_,_,_,_],_=>rfl) (by kernel_rfl)
  (ChangeSpec.witness_shaped (enc:=enc) (C:=Tryz.checked) (os:=os) (X:=fun w _=>laidMetH Tryz.prog laidL w) false (World.doorLaid Tryz.prog 400 os) #[.agg #[.int .i64 0,.int .i64 0,.int .i64 0,.int .i64 0,.slice none 0 0],.int .u16 0,.int .u8 0,.int .u8 0,.agg #[.int .i64 0,.int .i64 0],.slice none 0 0] 8 rfl (Z3F os _) (by kernel_rfl) (by kernel_rfl) (by kernel_rfl) (Z7C os _)) ?_
 intro W base args ds p Du hA hM Dq hd;rw[Tryz.params17] at Du;obtain⟨v0,v1,v2,v3,v4,v5,dx0,dx1,dx2,dx3,dx4,dx5,px0,px1,px2,px3,px4,px5,rfl,rfl,rfl,h0,h1,h2,h3,h4,h5⟩:=Zm7 hA;obtain⟨a0,b0,c0,d0,ab0,n0,k0,S0,rfl,hL0,Hs,D1,De,Iw,Ms⟩:=Z4c (Du 0 26 v0 rfl rfl) h0;obtain⟨u1,rfl,Lu,Dz⟩:=ZeQ (Du 1 40 v1 rfl rfl) h1;obtain⟨u2,rfl,Eh,Cx⟩:=ZfW (Du 2 5 v2 rfl rfl) h2;obtain⟨u3,rfl,D6,F9⟩:=ZfW (Du 3 5 v3 rfl rfl) h3;obtain⟨a4,b4,rfl,J6⟩:=Zl8 (Du 4 48 v4 rfl rfl) h4;obtain⟨ab5,n5,k5,S5,rfl,Xi,hn5,O3,Gw,Kr,hw5⟩:=Zgs (Du 5 41 v5 rfl rfl) h5;refine⟨(((((AR.nil.push De).push Dz).push Cx).push F9).push J6).push Gw,fun t=> ?_⟩;exact Zm1 a0 b0 c0 d0 u1 u2 u3 a4 b4 ab0 n0 k0 S0 ab5 n5 k5 S5 (retape t (Zx W)) hL0 (Zf7 Lu) (Zgg Eh) (Zgg D6) Xi (fun x hx=>Zf7 (hw5 x hx)) hM (Za7 t Dq) hd (Za8 t (Z5T Iw)) (Zgy t (Zgt Kr))
theorem arrowKnown_row:Rows.ArrowKnownSaid:=
 OpenClaim.holds_of_wide_leaving 17 Tryz.f17 rfl rfl rfl rfl rfl rfl rfl ⟨rfl,rfl,rfl,rfl,rfl⟩ rfl rfl rfl rfl rfl (by kernel_rfl) Tryz.func17 JarrowKnown.facts
  (of_decide_eq_true (by kernel_rfl)) (by unfold Func.isWrapper;first|(rw[if_pos (by decide+kernel)];kernel_rfl)|(rw[if_neg (by decide+kernel)];exact⟨rfl,rfl⟩))
  (fun os started H enc _=>Zm0 os started H enc)
theorem arrowKnown_card:Rows.ArrowKnownCardSaid:=
 Zac .later [.data,.data,.data,.funcs] true (true,"0e1059176c690520e63ed0d32383d6ff1680ebd08dcb3a61820afc84c46f7b58") false
  arrowKnown_row (by kernel_rfl) arrowKnown_row_tie rfl ⟨rfl,rfl⟩ (by kernel_rfl) rfl
  (fun f fn hf hfn=>by
    obtain rfl:f=17:=Option.some.inj ((show Tryz.prog.funcNamed "nock/nocklaw01.ArrowKnown" =some 17 by kernel_rfl).symm.trans hf) |>.symm
    obtain rfl:fn=Tryz.f17:=(Option.some.inj (Tryz.func17.symm.trans hfn)).symm
    exact⟨by kernel_rfl,fun j t ht=>by
     rw[Tryz.params17] at ht;have hm:t∈[26,40,5,5,48,41]:=(by simpa using Array.mem_of_getElem? ht);have Ai:([26,40,5,5,48,41].all fun u=> !Tryz.prog.wantsStandIn u)=true:=(by kernel_rfl);exact(show Tryz.prog.wantsStandIn t=false by simpa using List.all_eq_true.1 Ai t hm)⟩)
  (by kernel_rfl)
end Go.Proofs.YtedkbdkbbnemlaaGreatDoor
