/- nocklaw01.ArrowTrue: for every stock, any list, any truth the call returns true, on every schedule and without a data race; its arguments read afterwards as they read before; nothing that was in memory is changed; at the return no other goroutine does more than leave. The card ties the four listed package variables to the program's text. Conditions: none beyond the card's own (the listed variables hold what the program's text lays). The texts of this claim were shortened by program (no remarks, short names) to fit the bounds on a claim's size; their long form lies in the repository's folder wip. -/
import Derived.Test.YtedkbdkbbnemlaaGreatDoorNk30
import Derived.Carry
import Derived.Deep.DeepCutAuto
import Derived.JoinedOf
import Derived.KernelRfl
import Derived.Test.YtedkbdkbbnemlaaGreatDoorRows
set_option linter.all false
namespace Go.Proofs.Tryq
set_option maxRecDepth 100000
set_option maxHeartbeats 8000000
open Go Go.Nk Go.RowKit
set_option linter.all false
theorem ZmR(a b c m bt:Int)(base:Option Addr)(n cap:Nat)(pb:Option Addr)(pn2 pc:Nat)(w:World)
 (Gq:∀W,Ext w W->Calls prog 30 #[.agg #[.int .i64 a,.int .i64 b,.int .i64 c,.int .i64 m,.slice base n cap]] W fun e w'=>e= .returned (.bool false)/\Ext W w')
 (Bb:∀W,Ext w W->Calls prog 22 #[] W fun e w'=>e= .returned (.bool true)/\Ext W w'):
 Calls prog 4 #[.agg #[.int .i64 a,.int .i64 b,.int .i64 c,.int .i64 m,.slice base n cap],.int .u16 bt,.slice pb pn2 pc] w fun e w'=>e= .returned (.bool true):=by
 have E2:(w.alloc (.cells #[.int .i64 a,.int .i64 b,.int .i64 c,.int .i64 m,.slice base n cap] 26)).heap[w.heap.size]? =some (.cells #[.int .i64 a,.int .i64 b,.int .i64 c,.int .i64 m,.slice base n cap] 26):=(Z3 _ _ _).trans (if_pos rfl);have Bf:=(Ext.rfl' w).alloc (.cells #[.int .i64 a,.int .i64 b,.int .i64 c,.int .i64 m,.slice base n cap] 26);go_enter func4,ntmps4
 go_wp2_with (first
  |(go_at_call 30;refine(Gq _ Bf).mono ?_;rintro e w2 ⟨rfl,hF⟩
    have hE:=Bf.trans hF;have hr:=hF.get E2;clear hF;obtain⟨q0,q1,q2,q3,q4⟩:=Zgj hr)
  |(go_at_call 22;refine(Bb _ hE).mono ?_;rintro e w9 ⟨rfl,hF9⟩))
 go_ret;exact rfl
theorem ZmQ(a b c m bt:Int)(base:Option Addr)(n cap:Nat)(pb:Option Addr)(pn2 pc:Nat)(w:World)(l:List Int)(ln:Nat)(A:List Ap)(an:Nat)(hz:an=0)
 (Gq:∀W,Ext w W->Calls prog 30 #[.agg #[.int .i64 a,.int .i64 b,.int .i64 c,.int .i64 m,.slice base n cap]] W fun e w'=>e= .returned (.bool true)/\Ext W w')
 (K5:∀W,Ext w W->Calls prog 31 #[.agg #[.int .i64 a,.int .i64 b,.int .i64 c,.int .i64 m,.slice base n cap],.int .u16 bt] W fun e w'=>∃bl cl,e= .returned (.slice bl ln cl)/\ln<=cl/\RawI w' bl l/\Ext W w')
 (Hx:∀bl cl W,Ext w W->ln<=cl->RawI W bl l->Calls prog 23 #[.agg #[.int .i64 a,.int .i64 b,.int .i64 c,.int .i64 m,.slice base n cap],.slice bl ln cl] W fun e w'=>e= .returned (.tuple #[.int .i64 1,.int .i64 0])/\Ext W w')
 (K6:∀bl cl W,Ext w W->ln<=cl->RawI W bl l->Calls prog 27 #[.agg #[.int .i64 a,.int .i64 b,.int .i64 c,.int .i64 m,.slice base n cap],.slice bl ln cl] W fun e w'=>∃ab ac,e= .returned (.tuple #[.slice ab an ac,.int .i64 0])/\RawAp w' ab A/\Ext W w')
 (K7:∀bl cl W,Ext w W->ln<=cl->RawI W bl l->Calls prog 32 #[.agg #[.int .i64 a,.int .i64 b,.int .i64 c,.int .i64 m,.slice base n cap],.slice bl ln cl,.slice pb pn2 pc] W fun e w'=>e= .returned (.bool true)/\Ext W w')
 (Bb:∀W,Ext w W->Calls prog 22 #[] W fun e w'=>e= .returned (.bool true)/\Ext W w'):
 Calls prog 4 #[.agg #[.int .i64 a,.int .i64 b,.int .i64 c,.int .i64 m,.slice base n cap],.int .u16 bt,.slice pb pn2 pc] w fun e w'=>e= .returned (.bool true):=by
 subst hz;have E2:(w.alloc (.cells #[.int .i64 a,.int .i64 b,.int .i64 c,.int .i64 m,.slice base n cap] 26)).heap[w.heap.size]? =some (.cells #[.int .i64 a,.int .i64 b,.int .i64 c,.int .i64 m,.slice base n cap] 26):=(Z3 _ _ _).trans (if_pos rfl);have Bf:=(Ext.rfl' w).alloc (.cells #[.int .i64 a,.int .i64 b,.int .i64 c,.int .i64 m,.slice base n cap] 26);go_enter func4,ntmps4
 go_wp2_with (first
  |(go_at_call 30;refine(Gq _ Bf).mono ?_;rintro e w2 ⟨rfl,hF⟩
    have hE:=Bf.trans hF;have hr:=hF.get E2;clear hF;obtain⟨q0,q1,q2,q3,q4⟩:=Zgj hr)
  |(go_at_call 31;refine(K5 _ hE).mono ?_;rintro e w3 ⟨bl,cl,rfl,C5,hI,hF⟩
    replace hE:=hE.trans hF;replace hr:=hF.get hr;clear hF q0 q1 q2 q3 q4;obtain⟨q0,q1,q2,q3,q4⟩:=Zgj hr)
  |(go_at_call 23;(with_reducible refine(Hx bl cl _ hE C5 hI).mono ?_);rintro e w4 ⟨rfl,hF⟩
    replace hI:=hI.ext hF;replace hE:=hE.trans hF;replace hr:=hF.get hr;clear hF q0 q1 q2 q3 q4;obtain⟨q0,q1,q2,q3,q4⟩:=Zgj hr)
  |(go_at_call 27;refine(K6 bl cl _ hE C5 hI).mono ?_;rintro e w5 ⟨ab,ac,rfl,hA,hF⟩
    replace hI:=hI.ext hF;replace hE:=hE.trans hF;replace hr:=hF.get hr;clear hF q0 q1 q2 q3 q4;obtain⟨q0,q1,q2,q3,q4⟩:=Zgj hr)
  |(go_at_call 32;refine(K7 bl cl _ hE C5 hI).mono ?_;rintro e w6 ⟨rfl,hF⟩
    replace hI:=hI.ext hF;replace hA:=hA.ext hF;replace hE:=hE.trans hF;replace hr:=hF.get hr;clear hF q0 q1 q2 q3 q4;obtain⟨q0,q1,q2,q3,q4⟩:=Zgj hr)
  |(go_at_call 22;refine(Bb _ hE).mono ?_;rintro e w9 ⟨rfl,hF9⟩))
 go_ret;exact rfl
theorem ZmS(a b c m bt:Int)(base:Option Addr)(n cap:Nat)(pb:Option Addr)(pn2 pc:Nat)(w:World)(l:List Int)(ln:Nat)(A:List Ap)(an:Nat)(hz:1<=an)
 (Gq:∀W,Ext w W->Calls prog 30 #[.agg #[.int .i64 a,.int .i64 b,.int .i64 c,.int .i64 m,.slice base n cap]] W fun e w'=>e= .returned (.bool true)/\Ext W w')
 (K5:∀W,Ext w W->Calls prog 31 #[.agg #[.int .i64 a,.int .i64 b,.int .i64 c,.int .i64 m,.slice base n cap],.int .u16 bt] W fun e w'=>∃bl cl,e= .returned (.slice bl ln cl)/\ln<=cl/\RawI w' bl l/\Ext W w')
 (Hx:∀bl cl W,Ext w W->ln<=cl->RawI W bl l->Calls prog 23 #[.agg #[.int .i64 a,.int .i64 b,.int .i64 c,.int .i64 m,.slice base n cap],.slice bl ln cl] W fun e w'=>e= .returned (.tuple #[.int .i64 2,.int .i64 0])/\Ext W w')
 (K6:∀bl cl W,Ext w W->ln<=cl->RawI W bl l->Calls prog 27 #[.agg #[.int .i64 a,.int .i64 b,.int .i64 c,.int .i64 m,.slice base n cap],.slice bl ln cl] W fun e w'=>∃ab ac,e= .returned (.tuple #[.slice ab an ac,.int .i64 0])/\RawAp w' ab A/\Ext W w')
 (K7:∀bl cl W,Ext w W->ln<=cl->RawI W bl l->Calls prog 32 #[.agg #[.int .i64 a,.int .i64 b,.int .i64 c,.int .i64 m,.slice base n cap],.slice bl ln cl,.slice pb pn2 pc] W fun e w'=>e= .returned (.bool false)/\Ext W w')
 (Bb:∀W,Ext w W->Calls prog 22 #[] W fun e w'=>e= .returned (.bool true)/\Ext W w'):
 Calls prog 4 #[.agg #[.int .i64 a,.int .i64 b,.int .i64 c,.int .i64 m,.slice base n cap],.int .u16 bt,.slice pb pn2 pc] w fun e w'=>e= .returned (.bool true):=by
 have Vn:((an:Int)==0)=false:=beq_eq_false_iff_ne.2 (by omega);have hanz:¬an=0:=by omega
 have E2:(w.alloc (.cells #[.int .i64 a,.int .i64 b,.int .i64 c,.int .i64 m,.slice base n cap] 26)).heap[w.heap.size]? =some (.cells #[.int .i64 a,.int .i64 b,.int .i64 c,.int .i64 m,.slice base n cap] 26):=(Z3 _ _ _).trans (if_pos rfl);have Bf:=(Ext.rfl' w).alloc (.cells #[.int .i64 a,.int .i64 b,.int .i64 c,.int .i64 m,.slice base n cap] 26);go_enter func4,ntmps4
 go_wp2_with (first
  |(go_at_call 30;refine(Gq _ Bf).mono ?_;rintro e w2 ⟨rfl,hF⟩
    have hE:=Bf.trans hF;have hr:=hF.get E2;clear hF;obtain⟨q0,q1,q2,q3,q4⟩:=Zgj hr)
  |(go_at_call 31;refine(K5 _ hE).mono ?_;rintro e w3 ⟨bl,cl,rfl,C5,hI,hF⟩
    replace hE:=hE.trans hF;replace hr:=hF.get hr;clear hF q0 q1 q2 q3 q4;obtain⟨q0,q1,q2,q3,q4⟩:=Zgj hr)
  |(go_at_call 23;(with_reducible refine(Hx bl cl _ hE C5 hI).mono ?_);rintro e w4 ⟨rfl,hF⟩
    replace hI:=hI.ext hF;replace hE:=hE.trans hF;replace hr:=hF.get hr;clear hF q0 q1 q2 q3 q4;obtain⟨q0,q1,q2,q3,q4⟩:=Zgj hr)
  |(go_at_call 27;refine(K6 bl cl _ hE C5 hI).mono ?_;rintro e w5 ⟨ab,ac,rfl,hA,hF⟩
    replace hI:=hI.ext hF;replace hE:=hE.trans hF;replace hr:=hF.get hr;clear hF q0 q1 q2 q3 q4;obtain⟨q0,q1,q2,q3,q4⟩:=Zgj hr)
  |(go_at_call 32;refine(K7 bl cl _ hE C5 hI).mono ?_;rintro e w6 ⟨rfl,hF⟩
    replace hI:=hI.ext hF;replace hA:=hA.ext hF;replace hE:=hE.trans hF;replace hr:=hF.get hr;clear hF q0 q1 q2 q3 q4;obtain⟨q0,q1,q2,q3,q4⟩:=Zgj hr)
  |(go_at_call 22;refine(Bb _ hE).mono ?_;rintro e w9 ⟨rfl,hF9⟩))
 go_ret;exact rfl
theorem ZmL(a b c m bt:Int)(bs off n cap:Nat)(pb:Option Addr)(pn2 pc:Nat)(w:World)(l:List Int)(ln:Nat)(A:List Ap)(an:Nat)(D1:bs<w.heap.size)(Kl:n<=9)(L:List Sf)(A2:Hid (L.length=n))(hS:Hid (RawA w (some ⟨bs,off,none⟩) L))(mb:Bool)(han:1<=an)(pn qn k:Nat)(x y:Sf)(Ej:Hid (A[0]? =some ⟨pn,qn,k,0⟩))(Ku:pn<n)(X9:qn<n)(Q3:k<3)(hx:Hid (L[pn]? =some x))(hy:Hid (L[qn]? =some y))(P1 P2 Q1 Q2 u v:Int)(Lp:Hid ((spA x k).1=P1))(H1:Hid ((spA x k).2=P2))(hQ1:Hid ((spA y k).1=Q1))(hQ2:Hid ((spA y k).2=Q2))(hPb:0<=P1/\P1<=9999/\0<=P2/\P2<=9999/\0<=Q1/\Q1<=9999/\0<=Q2/\Q2<=9999)(Ln:Hid (if P2 - Q1<Q2 - P1 then u=P1/\v=Q2 else u=P2/\v=Q1))
 (Gq:∀W,Ext w W->Calls prog 30 #[.agg #[.int .i64 a,.int .i64 b,.int .i64 c,.int .i64 m,.slice (some ⟨bs,off,none⟩) n cap]] W fun e w'=>e= .returned (.bool true)/\Ext W w')
 (K5:∀W,Ext w W->Calls prog 31 #[.agg #[.int .i64 a,.int .i64 b,.int .i64 c,.int .i64 m,.slice (some ⟨bs,off,none⟩) n cap],.int .u16 bt] W fun e w'=>∃bl cl,e= .returned (.slice bl ln cl)/\ln<=cl/\RawI w' bl l/\Ext W w')
 (Hx:∀bl cl W,Ext w W->ln<=cl->RawI W bl l->Calls prog 23 #[.agg #[.int .i64 a,.int .i64 b,.int .i64 c,.int .i64 m,.slice (some ⟨bs,off,none⟩) n cap],.slice bl ln cl] W fun e w'=>e= .returned (.tuple #[.int .i64 0,.int .i64 0])/\Ext W w')
 (K6:∀bl cl W,Ext w W->ln<=cl->RawI W bl l->Calls prog 27 #[.agg #[.int .i64 a,.int .i64 b,.int .i64 c,.int .i64 m,.slice (some ⟨bs,off,none⟩) n cap],.slice bl ln cl] W fun e w'=>∃ab ac,e= .returned (.tuple #[.slice ab an ac,.int .i64 0])/\RawAp w' ab A/\Ext W w')
 (K7:∀bl cl W,Ext w W->ln<=cl->RawI W bl l->Calls prog 32 #[.agg #[.int .i64 a,.int .i64 b,.int .i64 c,.int .i64 m,.slice (some ⟨bs,off,none⟩) n cap],.slice bl ln cl,.slice pb pn2 pc] W fun e w'=>e= .returned (.bool mb)/\Ext W w')
 (Bb:∀W,Ext w W->Calls prog 22 #[] W fun e w'=>e= .returned (.bool true)/\Ext W w')
 (h23o:∀(g o cp:Nat) bl cl W,Ext w W->ln<=cl->RawA W (some ⟨g,o,none⟩) (Zla (Zla L pn k (u,u)) qn k (v,v))->RawI W bl l->Calls prog 23 #[.agg #[.int .i64 a,.int .i64 b,.int .i64 c,.int .i64 m,.slice (some ⟨g,o,none⟩) n cp],.slice bl ln cl] W fun e w'=>e= .returned (.tuple #[.int .i64 2,.int .i64 0])/\Ext W w')
 (h36:∀bl cl W,Ext w W->RawI W bl l->Calls prog 36 #[.agg #[.int .i64 a,.int .i64 b,.int .i64 c,.int .i64 m,.slice (some ⟨bs,off,none⟩) n cap],.slice bl ln cl] W fun e w'=>∃(g o cp:Nat)(LL:List Sf),e= .returned (.agg #[.int .i64 a,.int .i64 b,.int .i64 c,.int .i64 m,.slice (some ⟨g,o,none⟩) n cp])/\RawA w' (some ⟨g,o,none⟩) LL/\Hid (Cl L LL l 3 0)/\Ext W w')
 (h23c:∀LL (g o cp:Nat) bl cl W,Hid (Cl L LL l 3 0)->Ext w W->ln<=cl->RawA W (some ⟨g,o,none⟩) LL->RawI W bl l->Calls prog 23 #[.agg #[.int .i64 a,.int .i64 b,.int .i64 c,.int .i64 m,.slice (some ⟨g,o,none⟩) n cp],.slice bl ln cl] W fun e w'=>e= .returned (.tuple #[.int .i64 1,.int .i64 0])/\Ext W w'):
 Calls prog 4 #[.agg #[.int .i64 a,.int .i64 b,.int .i64 c,.int .i64 m,.slice (some ⟨bs,off,none⟩) n cap],.int .u16 bt,.slice pb pn2 pc] w fun e w'=>e= .returned (.bool true):=by
 have Vn:((an:Int)==0)=false:=beq_eq_false_iff_ne.2 (by omega);have hanz:¬an=0:=by omega
 have E2:(w.alloc (.cells #[.int .i64 a,.int .i64 b,.int .i64 c,.int .i64 m,.slice (some ⟨bs,off,none⟩) n cap] 26)).heap[w.heap.size]? =some (.cells #[.int .i64 a,.int .i64 b,.int .i64 c,.int .i64 m,.slice (some ⟨bs,off,none⟩) n cap] 26):=(Z3 _ _ _).trans (if_pos rfl);have Bf:=(Ext.rfl' w).alloc (.cells #[.int .i64 a,.int .i64 b,.int .i64 c,.int .i64 m,.slice (some ⟨bs,off,none⟩) n cap] 26);have Pj:(pn:Int)<(n:Int):=by omega
 have Fy:(qn:Int)<(n:Int):=by omega
 have Fc:(k:Int)<=2:=by omega
 have hpi2:¬n<=pn:=by omega
 have hqi2:¬n<=qn:=by omega
 have hki2:¬2<k:=by omega
 have El:=fun w=>Z31 x k Q3 w
 have Vo:=fun w=>Z31 y k Q3 w
 simp only[sfC] at El Vo;rw[Lp.out,H1.out] at El;rw[hQ1.out,hQ2.out] at Vo;go_enter func4,ntmps4
 go_upto_region 14 with(first
  |(go_at_call 30;refine(Gq _ Bf).mono ?_;rintro e w2 ⟨rfl,hF⟩
    have hE:=Bf.trans hF;have hr:=hF.get E2;clear hF;obtain⟨q0,q1,q2,q3,q4⟩:=Zgj hr)
  |(go_at_call 31;refine(K5 _ hE).mono ?_;rintro e w3 ⟨bl,cl,rfl,C5,hI,hF⟩
    replace hE:=hE.trans hF;replace hr:=hF.get hr;clear hF q0 q1 q2 q3 q4;obtain⟨q0,q1,q2,q3,q4⟩:=Zgj hr)
  |(go_at_call 23;(with_reducible refine(Hx bl cl _ hE C5 hI).mono ?_);rintro e w4 ⟨rfl,hF⟩
    replace hI:=hI.ext hF;replace hE:=hE.trans hF;replace hr:=hF.get hr;clear hF q0 q1 q2 q3 q4;obtain⟨q0,q1,q2,q3,q4⟩:=Zgj hr)
  |(go_at_call 27;refine(K6 bl cl _ hE C5 hI).mono ?_;rintro e w5 ⟨ab,ac,rfl,hA,hF⟩
    replace hI:=hI.ext hF;replace hE:=hE.trans hF;replace hr:=hF.get hr;clear hF q0 q1 q2 q3 q4;obtain⟨q0,q1,q2,q3,q4⟩:=Zgj hr)
  |(go_at_call 32;refine(K7 bl cl _ hE C5 hI).mono ?_;rintro e w6 ⟨rfl,hF⟩
    replace hI:=hI.ext hF;replace hA:=hA.ext hF;replace hE:=hE.trans hF;replace hr:=hF.get hr;clear hF q0 q1 q2 q3 q4;obtain⟨q0,q1,q2,q3,q4⟩:=Zgj hr;obtain⟨ba,oa,rfl,hbaw,Vn,Gc,O6,ha3⟩:=hA 0 _ Ej.out;simp only[Nat.zero_mul,Nat.add_zero] at Vn Gc O6 ha3;have hX:=(Ext.rfl' w6).alloc (.cells #[.int .i64 pn,.int .i64 qn,.int .i64 k,.int .i64 0] 46);have G7:=hE.trans hX;have Uf:=hX.get hr;have hI7:=hI.ext hX;have N7:=(Z3 w6 (.cells #[.int .i64 pn,.int .i64 qn,.int .i64 k,.int .i64 0] 46) w6.heap.size).trans (if_pos rfl);obtain⟨r0,r1,r2,r3,r4⟩:=Zgj Uf;clear hX))
 have Cc:=Z5 hr;clear hbaw hE hr hI hA Vn Gc O6 ha3 r0 r1 r2 r3 r4 q0 q1 q2 q3 q4 K6 K7 K5 Hx Gq;obtain⟨ap,P9⟩:∃z,z=w6.heap.size:=⟨_,rfl⟩;rw[<-P9] at N7 Cc;rw[<-P9];clear P9;generalize World.alloc w6 _=wb at G7 Uf hI7 N7⊢;clear w6;obtain⟨q0,q1,q2,q3,q4⟩:=Zgj Uf;have t0:=Z0 N7 0;have t1:=Z0 N7 1;have t2:=Z0 N7 2;have t3:=Z0 N7 3;simp only[List.getElem?_toArray,List.getElem?_cons_zero,List.getElem?_cons_succ] at t0 t1 t2 t3;obtain⟨bx,ox,ex,_,sx,_⟩:=(hS.out.ext G7) pn x hx.out;obtain⟨rfl,rfl⟩:bs=bx/\off=ox:=by simpa using ex
 obtain⟨by1,oy,ey,_,sy,_⟩:=(hS.out.ext G7) qn y hy.out;obtain⟨rfl,rfl⟩:bs=by1/\off=oy:=by simpa using ey
 have x0:=sx.1;have x1:=sx.2;have x2:=sx.3;have x3:=sx.4;have x4:=sx.5;have x5:=sx.6;have x6:=sx.7;have y0:=sy.1;have y1:=sy.2;have y2:=sy.3;have y3:=sy.4;have y4:=sy.5;have y5:=sy.6;have y6:=sy.7;clear ex ey sx sy;have zq4:=Zet q4;have zt0:=Zet t0;have zt1:=Zet t1;have zt2:=Zet t2;have zx0:=Zet x0;have zx1:=Zet x1;have zx2:=Zet x2;have zx3:=Zet x3;have zx4:=Zet x4;have zx5:=Zet x5;have zx6:=Zet x6;have zy0:=Zet y0;have zy1:=Zet y1;have zy2:=Zet y2;have zy3:=Zet y3;have zy4:=Zet y4;have zy5:=Zet y5;have zy6:=Zet y6
 go_cut [14,15] (fun s14 s15 wc=>∃b1 b2:Nat,s14= .pointer (some ⟨b1,0,none⟩)/\s15= .pointer (some ⟨b2,0,none⟩)/\b1≠b2/\wb.heap.size<=b1/\wb.heap.size<=b2/\wc.heap[b1]? =some (.cells #[.int .i64 P1,.int .i64 P2] 48)/\wc.heap[b2]? =some (.cells #[.int .i64 Q1,.int .i64 Q2] 48)/\Ext wb wc)
 case first=>
  refine ZeG 20 (by kernel_rfl) ?_;refine Zin [0,1,2,3,4,5,6,7,9,10,11,12,13,14,15,16] (by kernel_rfl) (by kernel_rfl) ?_;simp only[ZeD,List.getElem?_cons_succ,List.getElem?_cons_zero,List.cons_append,List.nil_append]
  repeat (go_big_quiet_step (fail))
  refine wpQuiet_nil ?_;refine Zib 8 (f:=33) (args:= #[.agg #[.string x.nm,.int .i64 x.a0,.int .i64 x.a1,.int .i64 x.b0,.int .i64 x.b1,.int .i64 x.c0,.int .i64 x.c1],.int .i64 k]) (v:= .agg #[.int .i64 P1,.int .i64 P2]) (by kernel_rfl) rfl (by kernel_rfl) rfl (fun W=>by simp[go_sem,execOp,Act.eval]) (fun W _=>El W) ?_;go_simp;refine Zib 17 (f:=33) (args:= #[.agg #[.string y.nm,.int .i64 y.a0,.int .i64 y.a1,.int .i64 y.b0,.int .i64 y.b1,.int .i64 y.c0,.int .i64 y.c1],.int .i64 k]) (v:= .agg #[.int .i64 Q1,.int .i64 Q2]) (by kernel_rfl) rfl (by kernel_rfl) rfl (fun W=>by simp[go_sem,execOp,Act.eval]) (fun W _=>Vo W) ?_;go_simp;refine Zit 18 19 rfl rfl (by kernel_rfl) rfl rfl (fun W hW=> ?_) (fun W hW=> ?_)
  ·refine Zf3 ⟨.pointer (some ⟨W.heap.size,0,none⟩),W.alloc (.cells #[.int .i64 0,.int .i64 0] 48),by simp[go_sem,execOp,Act.eval],(Ext.rfl' W).alloc _,?_⟩;go_simp;have m1:(W.alloc (.cells #[.int .i64 0,.int .i64 0] 48)).heap[W.heap.size]? =some (.cells #[.int .i64 0,.int .i64 0] 48):=by rw[Z3,if_pos rfl]
   have e1:=(hW).alloc (.cells #[.int .i64 0,.int .i64 0] 48);have lb1:wb.heap.size<=W.heap.size:=(hW).size;obtain⟨b1,B0⟩:∃b,b=W.heap.size:=⟨_,rfl⟩;rw[<-B0] at m1 lb1;rw[<-B0];generalize W.alloc _=Wb1 at m1 e1⊢;clear B0 hW;clear W;refine Zfa 19 rfl (by kernel_rfl) rfl (fun W hW=> ?_);refine Zf3 ⟨.pointer (some ⟨W.heap.size,0,none⟩),W.alloc (.cells #[.int .i64 0,.int .i64 0] 48),by simp[go_sem,execOp,Act.eval],(Ext.rfl' W).alloc _,?_⟩;go_simp;have m2:(W.alloc (.cells #[.int .i64 0,.int .i64 0] 48)).heap[W.heap.size]? =some (.cells #[.int .i64 0,.int .i64 0] 48):=by rw[Z3,if_pos rfl]
   have e2:=((e1.trans hW)).alloc (.cells #[.int .i64 0,.int .i64 0] 48);have A8:b1≠W.heap.size:=by have:=Z5 (hW.get m1);omega
   replace m1:=((Ext.rfl' W).alloc (.cells #[.int .i64 0,.int .i64 0] 48)).get (hW.get m1);have lb2:wb.heap.size<=W.heap.size:=((e1.trans hW)).size;obtain⟨b2,Ak⟩:∃b,b=W.heap.size:=⟨_,rfl⟩;rw[<-Ak] at m2 lb2 A8;rw[<-Ak];generalize W.alloc _=Wb2 at m2 e2 m1⊢;clear Ak hW;clear W;refine Zfp 2 (by kernel_rfl) (fun W hW=> ?_);simp only[List.drop_succ_cons,List.drop_zero];replace m1:=hW.get m1;replace m2:=hW.get m2;replace e2:=e2.trans hW;clear hW;refine wpList_plain rfl fun K hK=> ?_
   have c0:=Z0 m1 0;have c1:=Z0 m1 1;have f0:=Z8 m1 0;have f1:=Z8 m1 1;simp only[List.getElem?_toArray,List.getElem?_cons_zero,List.getElem?_cons_succ] at c0 c1;refine Zi8 ⟨(W.setCell ⟨b1,0,none⟩ (.int .i64 P1)).setCell ⟨b1,1,none⟩ (.int .i64 P2),by simp[go_sem,execOp,Act.eval,c0,c1,f0,f1],hK _ _ ?_⟩;clear hK;clear K c0 c1 f0 f1;replace m1:=set_pair m1 (.int .i64 P1) (.int .i64 P2);replace m2:=((set_ne (a:=⟨b1,1,none⟩) (Ne.symm A8) (.int .i64 P2)).trans (set_ne (a:=⟨b1,0,none⟩) (Ne.symm A8) (.int .i64 P1))).trans m2;replace e2:=(e2.setCell ⟨b1,0,none⟩ (.int .i64 P1) lb1).setCell ⟨b1,1,none⟩ (.int .i64 P2) lb1;generalize World.setCell _ _ _=W' at m1 m2 e2⊢;clear W;obtain⟨W,rfl⟩:∃W:World,W=W':=⟨_,rfl⟩;go_simp;refine wpList_plain rfl fun K hK=> ?_
   have c0:=Z0 m2 0;have c1:=Z0 m2 1;have f0:=Z8 m2 0;have f1:=Z8 m2 1;simp only[List.getElem?_toArray,List.getElem?_cons_zero,List.getElem?_cons_succ] at c0 c1;refine Zi8 ⟨(W.setCell ⟨b2,0,none⟩ (.int .i64 Q1)).setCell ⟨b2,1,none⟩ (.int .i64 Q2),by simp[go_sem,execOp,Act.eval,c0,c1,f0,f1],hK _ _ ?_⟩;clear hK;clear K c0 c1 f0 f1;replace m2:=set_pair m2 (.int .i64 Q1) (.int .i64 Q2);replace m1:=((set_ne (a:=⟨b2,1,none⟩) A8 (.int .i64 Q2)).trans (set_ne (a:=⟨b2,0,none⟩) A8 (.int .i64 Q1))).trans m1;replace e2:=(e2.setCell ⟨b2,0,none⟩ (.int .i64 Q1) lb2).setCell ⟨b2,1,none⟩ (.int .i64 Q2) lb2;generalize World.setCell _ _ _=W' at m2 m1 e2⊢;clear W;obtain⟨W,rfl⟩:∃W:World,W=W':=⟨_,rfl⟩;go_simp;refine Zfm ?_;go_wp2_with fail
   go_meet
   exact⟨b1,b2,rfl,rfl,A8,lb1,lb2,m1,m2,e2⟩
  ·refine Zf3 ⟨.pointer (some ⟨W.heap.size,0,none⟩),W.alloc (.cells #[.int .i64 0,.int .i64 0] 48),by simp[go_sem,execOp,Act.eval],(Ext.rfl' W).alloc _,?_⟩;go_simp;have m2:(W.alloc (.cells #[.int .i64 0,.int .i64 0] 48)).heap[W.heap.size]? =some (.cells #[.int .i64 0,.int .i64 0] 48):=by rw[Z3,if_pos rfl]
   have e1:=(hW).alloc (.cells #[.int .i64 0,.int .i64 0] 48);have lb2:wb.heap.size<=W.heap.size:=(hW).size;obtain⟨b2,Ak⟩:∃b,b=W.heap.size:=⟨_,rfl⟩;rw[<-Ak] at m2 lb2;rw[<-Ak];generalize W.alloc _=Wb2 at m2 e1⊢;clear Ak hW;clear W;refine Zfa 18 rfl (by kernel_rfl) rfl (fun W hW=> ?_);refine Zf3 ⟨.pointer (some ⟨W.heap.size,0,none⟩),W.alloc (.cells #[.int .i64 0,.int .i64 0] 48),by simp[go_sem,execOp,Act.eval],(Ext.rfl' W).alloc _,?_⟩;go_simp;have m1:(W.alloc (.cells #[.int .i64 0,.int .i64 0] 48)).heap[W.heap.size]? =some (.cells #[.int .i64 0,.int .i64 0] 48):=by rw[Z3,if_pos rfl]
   have e2:=((e1.trans hW)).alloc (.cells #[.int .i64 0,.int .i64 0] 48);have A8:b2≠W.heap.size:=by have:=Z5 (hW.get m2);omega
   replace m2:=((Ext.rfl' W).alloc (.cells #[.int .i64 0,.int .i64 0] 48)).get (hW.get m2);have lb1:wb.heap.size<=W.heap.size:=((e1.trans hW)).size;obtain⟨b1,B0⟩:∃b,b=W.heap.size:=⟨_,rfl⟩;rw[<-B0] at m1 lb1 A8;rw[<-B0];generalize W.alloc _=Wb1 at m1 e2 m2⊢;clear B0 hW;clear W;refine Zfp 2 (by kernel_rfl) (fun W hW=> ?_);simp only[List.drop_succ_cons,List.drop_zero];replace m1:=hW.get m1;replace m2:=hW.get m2;replace e2:=e2.trans hW;clear hW;refine wpList_plain rfl fun K hK=> ?_
   have c0:=Z0 m1 0;have c1:=Z0 m1 1;have f0:=Z8 m1 0;have f1:=Z8 m1 1;simp only[List.getElem?_toArray,List.getElem?_cons_zero,List.getElem?_cons_succ] at c0 c1;refine Zi8 ⟨(W.setCell ⟨b1,0,none⟩ (.int .i64 P1)).setCell ⟨b1,1,none⟩ (.int .i64 P2),by simp[go_sem,execOp,Act.eval,c0,c1,f0,f1],hK _ _ ?_⟩;clear hK;clear K c0 c1 f0 f1;replace m1:=set_pair m1 (.int .i64 P1) (.int .i64 P2);replace m2:=((set_ne (a:=⟨b1,1,none⟩) A8 (.int .i64 P2)).trans (set_ne (a:=⟨b1,0,none⟩) A8 (.int .i64 P1))).trans m2;replace e2:=(e2.setCell ⟨b1,0,none⟩ (.int .i64 P1) lb1).setCell ⟨b1,1,none⟩ (.int .i64 P2) lb1;generalize World.setCell _ _ _=W' at m1 m2 e2⊢;clear W;obtain⟨W,rfl⟩:∃W:World,W=W':=⟨_,rfl⟩;go_simp;refine wpList_plain rfl fun K hK=> ?_
   have c0:=Z0 m2 0;have c1:=Z0 m2 1;have f0:=Z8 m2 0;have f1:=Z8 m2 1;simp only[List.getElem?_toArray,List.getElem?_cons_zero,List.getElem?_cons_succ] at c0 c1;refine Zi8 ⟨(W.setCell ⟨b2,0,none⟩ (.int .i64 Q1)).setCell ⟨b2,1,none⟩ (.int .i64 Q2),by simp[go_sem,execOp,Act.eval,c0,c1,f0,f1],hK _ _ ?_⟩;clear hK;clear K c0 c1 f0 f1;replace m2:=set_pair m2 (.int .i64 Q1) (.int .i64 Q2);replace m1:=((set_ne (a:=⟨b2,1,none⟩) (Ne.symm A8) (.int .i64 Q2)).trans (set_ne (a:=⟨b2,0,none⟩) (Ne.symm A8) (.int .i64 Q1))).trans m1;replace e2:=(e2.setCell ⟨b2,0,none⟩ (.int .i64 Q1) lb2).setCell ⟨b2,1,none⟩ (.int .i64 Q2) lb2;generalize World.setCell _ _ _=W' at m2 m1 e2⊢;clear W;obtain⟨W,rfl⟩:∃W:World,W=W':=⟨_,rfl⟩;go_simp;refine Zfm ?_;go_wp2_with fail
   go_meet
   exact⟨b1,b2,rfl,rfl,(Ne.symm A8),lb1,lb2,m1,m2,e2⟩
 case rest=>
  obtain⟨b1,b2,rfl,rfl,Ft,lb1,lb2,m1,m2,e2⟩:=hcut;clear El Vo zq4 zt0 zt1 zt2 zx0 zx1 zx2 zx3 zx4 zx5 zx6 zy0 zy1 zy2 zy3 zy4 zy5 zy6 x0 x1 x2 x3 x4 x5 x6 y0 y1 y2 y3 y4 y5 y6 q0 q1 q2 q3 q4 t0 t1 t2 t3;have y:=Zc m1;have y0:=y.1;have y1:=y.2.1;have z:=Zc m2;have z0:=z.1;have z1:=z.2.1;clear y z;have Jy:wrap64 (P2 - Q1)=P2 - Q1:=Z6a _ (by omega);have Dp:wrap64 (Q2 - P1)=Q2 - P1:=Z6a _ (by omega)
  go_upto_if 144 with fail
  go_cut [] (fun wd=>wd.heap[b1]? =some (.cells #[.int .i64 u,.int .i64 u] 48)/\wd.heap[b2]? =some (.cells #[.int .i64 v,.int .i64 v] 48)/\Ext wb wd)
  case first=>
   have gy0:=Zet y0;have gy1:=Zet y1;have gz0:=Zet z0;have gz1:=Zet z1;by_cases A3:P2 - Q1<Q2 - P1
   ·obtain⟨rfl,rfl⟩:P1=u/\Q2=v:=(by have:=Ln.out;rw[if_pos A3] at this;exact⟨this.1.symm,this.2.symm⟩);go_wp2_with fail;refine ZeG 10 (by kernel_rfl) ?_;refine Zin [0,1,2,3,5,6,7,8] (by kernel_rfl) (by kernel_rfl) ?_;simp only[ZeD,List.getElem?_cons_succ,List.getElem?_cons_zero,List.cons_append,List.nil_append]
    repeat (go_big_quiet_step (fail))
    refine wpQuiet_nil ?_;refine Zib 4 (f:=34) (args:= #[.int .i64 P1,.int .i64 P1]) (v:= .agg #[.int .i64 P1,.int .i64 P1]) (by kernel_rfl) rfl (by kernel_rfl) rfl (fun W=>by simp[go_sem,execOp,Act.eval]) (fun W _=>Z3P P1 P1 W) ?_;go_simp;refine Zib 9 (f:=34) (args:= #[.int .i64 Q2,.int .i64 Q2]) (v:= .agg #[.int .i64 Q2,.int .i64 Q2]) (by kernel_rfl) rfl (by kernel_rfl) rfl (fun W=>by simp[go_sem,execOp,Act.eval]) (fun W _=>Z3P Q2 Q2 W) ?_;go_simp;refine Zfp 2 (by kernel_rfl) (fun W hW=> ?_);simp only[List.drop_succ_cons,List.drop_zero];replace m1:=hW.get m1;replace m2:=hW.get m2;replace e2:=e2.trans hW;clear hW gy0 gy1 gz0 gz1 y0 y1 z0 z1;have y:=Zc m1;have y0:=y.1;have y1:=y.2.1;have y2:=y.2.2.1;have y3:=y.2.2.2;have z:=Zc m2;have z0:=z.1;have z1:=z.2.1;have z2:=z.2.2.1;have z3:=z.2.2.2;clear y z;have n1:=set_pair m1 (.int .i64 P1) (.int .i64 P1);have n2:=(set_ne (a:=⟨b1,1,none⟩) (Ne.symm Ft) (.int .i64 P1)).trans ((set_ne (w:=W) (a:=⟨b1,0,none⟩) (Ne.symm Ft) (.int .i64 P1)).trans m2);have e3:=(e2.setCell ⟨b1,0,none⟩ (.int .i64 P1) lb1).setCell ⟨b1,1,none⟩ (.int .i64 P1) lb1;have zz:=Zc n2;have zz0:=zz.1;have zz1:=zz.2.1;have zz2:=zz.2.2.1;have zz3:=zz.2.2.2;clear zz;have k1:=(set_ne (a:=⟨b2,1,none⟩) Ft (.int .i64 Q2)).trans ((set_ne (a:=⟨b2,0,none⟩) Ft (.int .i64 Q2)).trans n1)
    have k2:=set_pair n2 (.int .i64 Q2) (.int .i64 Q2);have e4:=(e3.setCell ⟨b2,0,none⟩ (.int .i64 Q2) lb2).setCell ⟨b2,1,none⟩ (.int .i64 Q2) lb2;clear m1 m2 n1 n2 e2 e3;go_wp2_with fail;refine Zfm ?_;go_wp2_with fail
    go_meet
    exact⟨k1,k2,e4⟩
   ·obtain⟨rfl,rfl⟩:P2=u/\Q1=v:=(by have:=Ln.out;rw[if_neg A3] at this;exact⟨this.1.symm,this.2.symm⟩);go_wp2_with fail;refine ZeG 10 (by kernel_rfl) ?_;refine Zin [0,1,2,3,5,6,7,8] (by kernel_rfl) (by kernel_rfl) ?_;simp only[ZeD,List.getElem?_cons_succ,List.getElem?_cons_zero,List.cons_append,List.nil_append]
    repeat (go_big_quiet_step (fail))
    refine wpQuiet_nil ?_;refine Zib 4 (f:=34) (args:= #[.int .i64 P2,.int .i64 P2]) (v:= .agg #[.int .i64 P2,.int .i64 P2]) (by kernel_rfl) rfl (by kernel_rfl) rfl (fun W=>by simp[go_sem,execOp,Act.eval]) (fun W _=>Z3P P2 P2 W) ?_;go_simp;refine Zib 9 (f:=34) (args:= #[.int .i64 Q1,.int .i64 Q1]) (v:= .agg #[.int .i64 Q1,.int .i64 Q1]) (by kernel_rfl) rfl (by kernel_rfl) rfl (fun W=>by simp[go_sem,execOp,Act.eval]) (fun W _=>Z3P Q1 Q1 W) ?_;go_simp;refine Zfp 2 (by kernel_rfl) (fun W hW=> ?_);simp only[List.drop_succ_cons,List.drop_zero];replace m1:=hW.get m1;replace m2:=hW.get m2;replace e2:=e2.trans hW;clear hW gy0 gy1 gz0 gz1 y0 y1 z0 z1;have y:=Zc m1;have y0:=y.1;have y1:=y.2.1;have y2:=y.2.2.1;have y3:=y.2.2.2;have z:=Zc m2;have z0:=z.1;have z1:=z.2.1;have z2:=z.2.2.1;have z3:=z.2.2.2;clear y z;have n1:=set_pair m1 (.int .i64 P2) (.int .i64 P2);have n2:=(set_ne (a:=⟨b1,1,none⟩) (Ne.symm Ft) (.int .i64 P2)).trans ((set_ne (w:=W) (a:=⟨b1,0,none⟩) (Ne.symm Ft) (.int .i64 P2)).trans m2);have e3:=(e2.setCell ⟨b1,0,none⟩ (.int .i64 P2) lb1).setCell ⟨b1,1,none⟩ (.int .i64 P2) lb1;have zz:=Zc n2;have zz0:=zz.1;have zz1:=zz.2.1;have zz2:=zz.2.2.1;have zz3:=zz.2.2.2;clear zz;have k1:=(set_ne (a:=⟨b2,1,none⟩) Ft (.int .i64 Q1)).trans ((set_ne (a:=⟨b2,0,none⟩) Ft (.int .i64 Q1)).trans n1)
    have k2:=set_pair n2 (.int .i64 Q1) (.int .i64 Q1);have e4:=(e3.setCell ⟨b2,0,none⟩ (.int .i64 Q1) lb2).setCell ⟨b2,1,none⟩ (.int .i64 Q1) lb2;clear m1 m2 n1 n2 e2 e3;go_wp2_with fail;refine Zfm ?_;go_wp2_with fail
    go_meet
    exact⟨k1,k2,e4⟩
  case rest=>
   obtain⟨n1,n2,e3⟩:=hcut;clear y0 y1 z0 z1 m1 m2 e2 Jy Dp;have hEd:=G7.trans e3;have hrd:=e3.get Uf;have Lz:=e3.get N7;have hId:=hI7.ext e3;have Uo:=hS.out.ext hEd;obtain⟨q0,q1,q2,q3,q4⟩:=Zgj hrd;have t0:=Z0 Lz 0;have t1:=Z0 Lz 1;have t2:=Z0 Lz 2;simp only[List.getElem?_toArray,List.getElem?_cons_zero,List.getElem?_cons_succ] at t0 t1 t2;have y:=Zc n1;have y0:=y.1;have y1:=y.2.1;have z:=Zc n2;have z0:=z.1;have z1:=z.2.1;clear y z G7 Uf hI7 N7 Ln;have gq0:=Zet q0;have gq1:=Zet q1;have gq2:=Zet q2;have gq3:=Zet q3;have gq4:=Zet q4;have gt0:=Zet t0;have gt1:=Zet t1;have gt2:=Zet t2;have gy0:=Zet y0;have gy1:=Zet y1;have gz0:=Zet z0;have gz1:=Zet z1;have Gt:=fun W (hW:Ext wc W)=>Zlf a b c m u u (some ⟨bs,off,none⟩) n cap pn k L W A2.out (by omega) Ku Q3 (Uo.ext hW)
   go_wp2_with fail
   refine Zfn 14 13 16 [0,1,2,3,4,5,6,7,8,9,10,11,12] (.cells #[.int .i64 0,.int .i64 0,.int .i64 0,.int .i64 0,.slice none 0 0] 26) (by kernel_rfl) rfl (by kernel_rfl) rfl rfl (fun a W=>by simp[go_sem,execOp,Act.eval]) ?_;refine Zfj [0,1,2,3,4,5,7,8,9,10,11] (by kernel_rfl) rfl rfl (by kernel_rfl) ?_;simp only[ZeD,List.getElem?_cons_succ,List.getElem?_cons_zero,List.cons_append,List.nil_append]
   repeat (go_big_quiet_step (fail))
   refine wpQuiet_nil ?_;refine Zfk 6 rfl (by kernel_rfl) rfl (fun W hW=>Zfo (f:=35) (args:= #[.agg #[.int .i64 a,.int .i64 b,.int .i64 c,.int .i64 m,.slice (some ⟨bs,off,none⟩) n cap],.int .i64 pn,.int .i64 k,.agg #[.int .i64 u,.int .i64 u]]) (by simp[go_sem,execOp,Act.eval]) ?_);refine(Gt W hW).mono ?_;rintro e W2 ⟨g1,cp1,rfl,hcp1,hge1,⟨cur1,Ug⟩,Ke,Gd⟩;refine⟨.agg #[.int .i64 a,.int .i64 b,.int .i64 c,.int .i64 m,.slice (some ⟨g1,0,none⟩) n cp1],rfl,Gd,?_⟩;have hX1:=hW.trans Gd;clear Gd hW hge1 Ug;obtain⟨Wa,rfl⟩:∃z,z=W:=⟨_,rfl⟩;go_simp;refine Zfk 12 rfl (by kernel_rfl) rfl (fun W hW=>Zfo (f:=35) (args:= #[.agg #[.int .i64 a,.int .i64 b,.int .i64 c,.int .i64 m,.slice (some ⟨g1,0,none⟩) n cp1],.int .i64 qn,.int .i64 k,.agg #[.int .i64 v,.int .i64 v]]) (by simp[go_sem,execOp,Act.eval]) ?_);refine(Zlf a b c m v v (some ⟨g1,0,none⟩) n cp1 qn k (Zla L pn k (u,u)) W (by rw[Zlb];exact A2.out) (by omega) X9 Q3 (Ke.ext hW)).mono ?_;rintro e W3 ⟨g2,cp2,rfl,Uc,hge2,⟨cur,Fs⟩,Lq,A0⟩;refine⟨.agg #[.int .i64 a,.int .i64 b,.int .i64 c,.int .i64 m,.slice (some ⟨g2,0,none⟩) n cp2],rfl,A0,?_⟩;have J5:=hX1.trans (hW.trans A0);clear A0 hW hge2 hX1 Ke;obtain⟨Wb,rfl⟩:∃z,z=W:=⟨_,rfl⟩
   go_simp;refine Zfq (by kernel_rfl) (fun W hW b hA Bg Ad=> ?_);obtain⟨bx,rfl⟩:∃bx,bx=b:=⟨_,rfl⟩;have An:=hW;clear hW;go_simp;refine Zfp 1 (by kernel_rfl) (fun W hW=> ?_);simp only[List.drop_succ_cons,List.drop_zero];replace Ad:=hW.get Ad;have hF:=(J5.trans An).trans hW;replace Lq:=Lq.ext (An.trans hW);have D7:=(An.trans hW).get Fs;have Cq:wc.heap.size<=bx:=hA.1.1
   have A8:g2≠bx:=fun e=>by
    rw[e] at D7;rw[Ad] at D7;injection D7 with D7;injection D7 with h1 h2 h3;exact absurd h2 (by decide)
   have hX:=ZiD Ad (.int .i64 a) (.int .i64 b) (.int .i64 c) (.int .i64 m) (.slice (some ⟨g2,0,none⟩) n cp2);have Vp:=ZiE hF Cq (.int .i64 a) (.int .i64 b) (.int .i64 c) (.int .i64 m) (.slice (some ⟨g2,0,none⟩) n cp2);have Vq:=ZkJ Lq (ZiG W (b:=bx) (show g2≠bx from A8) (.int .i64 a) (.int .i64 b) (.int .i64 c) (.int .i64 m) (.slice (some ⟨g2,0,none⟩) n cp2));have Ca:=hEd.trans Vp;have Hs:=Vp.get hrd;have K8:=hId.ext Vp;obtain⟨k0,k1,k2,k3,k4⟩:=Zgj Ad;obtain⟨f0,f1,f2,f3,f4⟩:=ZiJ Ad;clear hEd hrd Lz hId Uo J5 An hF hW hA Bg Lq Fs D7 Vp Ad q0 q1 q2 q3 q4 t0 t1 t2 y0 y1 z0 z1 gq0 gq1 gq2 gq3 gq4 gt0 gt1 gt2 gy0 gy1 gz0 gz1 n1 n2 e3;unfold ZjW at hX Vq Ca Hs K8;go_wp2_with fail;generalize World.setCell _ _ _=Y at hX Vq Ca Hs K8⊢;clear k0 k1 k2 k3 k4 f0 f1 f2 f3 f4;refine Zfm ?_;obtain⟨s0,s1,s2,s3,s4⟩:=Zgj hX;obtain⟨q0,q1,q2,q3,q4⟩:=Zgj Hs
   go_wp2_with (first
    |(go_at_call 23;(with_reducible refine(h23o g2 0 cp2 bl cl _ Ca C5 Vq K8).mono ?_);rintro e w8 ⟨rfl,hF⟩
      replace Ca:=Ca.trans hF;replace Hs:=hF.get Hs;replace K8:=K8.ext hF;clear hF s0 s1 s2 s3 s4 q0 q1 q2 q3 q4 Vq hX;obtain⟨q0,q1,q2,q3,q4⟩:=Zgj Hs)
    |(go_at_call 36;refine(h36 bl cl _ Ca K8).mono ?_;rintro e w9 ⟨g,o,cp,LL,rfl,hRL,hCl,hF⟩
      replace Ca:=Ca.trans hF;replace K8:=K8.ext hF;clear hF q0 q1 q2 q3 q4 Hs)
    |(go_at_call 23;(with_reducible refine(h23c LL g o cp bl cl _ hCl Ca C5 hRL K8).mono ?_);rintro e w10 ⟨rfl,hF⟩
      replace Ca:=Ca.trans hF;clear hF hRL K8)
    |(go_at_call 22;refine(Bb _ Ca).mono ?_;rintro e w11 ⟨rfl,hF9⟩))
   go_ret;exact rfl
end Go.Proofs.Tryq
namespace Go.Proofs.Tryq
open Go Go.Nk Go.RowKit
set_option linter.all false
theorem ZmF(a b c m bt:Int)(base:Option Addr)(n cap:Nat)(L:List Sf)(pb:Option Addr)(pn pc:Nat)(pk:List Int)(w:World)(A2:L.length=n)(Dn:n<=cap)(Bv:0<=bt/\bt<65536)(No:pk.length=pn)(hu:∀x∈pk,0<=x/\x<65536)(hM:Meas w)(Dv:Most w)(hd:Deb w)(hS:RawA w base L)(Le:RawU w pb pk):
 Calls prog 4 #[.agg #[.int .i64 a,.int .i64 b,.int .i64 c,.int .i64 m,.slice base n cap],.int .u16 bt,.slice pb pn pc] w fun e w'=>e= .returned (.bool true):=by
 have Gq:=fun W hW=>Zfd a b c m base n cap L W A2 (hS.ext hW)
 have Bb:∀W,Ext w W->Calls prog 22 #[] W fun e w'=>e= .returned (.bool true)/\Ext W w':=fun W (hW:Ext w W)=>Zce W (hM.ext hW) (Dv.ext hW) (hd.ext hW)
 cases hf:Zfc a b c m L with
 |false=>
  simp only[hf] at Gq;exact ZmR a b c m bt base n cap pb pn pc w Gq Bb
 |true=>
  simp only[hf] at Gq;have hs:Zp a b c m L=0:=by
   have:Z1B L=false/\Zp a b c m L=0:=by simpa[Zfc] using hf
   exact this.2
  have Az:=ZlF hs;have h9:=Az.len;have Jw:=ZeY bt n;have hz:=Zew bt n;have Oc:=ZeN bt n;have Aj:∀i∈ZeL bt n,0<=i/\i<L.length:=fun i hi=>by rw[A2];exact Jw.2 i hi
  obtain⟨Ul,hRb⟩:=Zm9 Az pk;have ho:Zo a b c m L (ZeL bt n)=0:=by rw[Zo,A2,hz,hs];rfl
  have C9:∀(LL:List Sf)(ao:Option Addr)(cp:Nat) bl cl W,Ext w W->Zp a b c m LL=0->LL.length=n->(ZeL bt n).length<=cl->RawA W ao LL->RawI W bl (ZeL bt n)->Calls prog 23 #[.agg #[.int .i64 a,.int .i64 b,.int .i64 c,.int .i64 m,.slice ao n cp],.slice bl (ZeL bt n).length cl] W fun e w'=>e= .returned (.tuple #[.int .i64 (Zr (apA a b c LL (ZeL bt n))),.int .i64 0])/\Ext W w':=by
   intro LL ao cp bl cl W hW hs hL C5 hR hI;have:=Z5Y a b c m ao n cp LL bl (ZeL bt n).length cl (ZeL bt n) W hL (by omega) rfl C5 (by omega) (hM.ext hW) hR hI;rw[Zeu hs (by rw[hL];exact hz),show Zo a b c m LL (ZeL bt n)=0 by rw[Zo,hL,hz,hs];rfl] at this;exact this
  have K5:∀W,Ext w W->Calls prog 31 #[.agg #[.int .i64 a,.int .i64 b,.int .i64 c,.int .i64 m,.slice base n cap],.int .u16 bt] W fun e w'=>∃bl cl,e= .returned (.slice bl (ZeL bt n).length cl)/\(ZeL bt n).length<=cl/\RawI w' bl (ZeL bt n)/\Ext W w':=by
   intro W hW;refine(ZeT a b c m bt base n cap W (by omega) Bv).mono ?_;rintro e w2 ⟨x,rfl,hx,hE⟩;obtain⟨bl,cl,rfl,hI,C5⟩:=hx.rawI;exact⟨bl,cl,rfl,C5,hI,hE⟩
  have Hx:=fun bl cl W hW C5 hI=>C9 L base cap bl cl W hW hs A2 C5 (hS.ext hW) hI
  have K6:∀bl cl W,Ext w W->(ZeL bt n).length<=cl->RawI W bl (ZeL bt n)->Calls prog 27 #[.agg #[.int .i64 a,.int .i64 b,.int .i64 c,.int .i64 m,.slice base n cap],.slice bl (ZeL bt n).length cl] W fun e w'=>∃ab ac,e= .returned (.tuple #[.slice ab (apA a b c L (ZeL bt n)).length ac,.int .i64 0])/\RawAp w' ab (apA a b c L (ZeL bt n))/\Ext W w':=by
   intro bl cl W hW C5 hI;refine(Z5Z a b c m base n cap L bl (ZeL bt n).length cl (ZeL bt n) W A2 (by omega) rfl C5 (by omega) (hM.ext hW) (hS.ext hW) hI).mono ?_;rw[ho,Z0Q,if_pos ho];rintro e w2 ⟨v,rfl,hv,hE⟩;obtain⟨ao,cp,rfl,hR⟩:=hv.rawAp;exact⟨ao,cp,rfl,hR,hE⟩
  have K7:∀mb:Bool,(mb=true↔Mtd a b c (ZlZ L pk) (ZeL bt n))->∀bl cl W,Ext w W->(ZeL bt n).length<=cl->RawI W bl (ZeL bt n)->Calls prog 32 #[.agg #[.int .i64 a,.int .i64 b,.int .i64 c,.int .i64 m,.slice base n cap],.slice bl (ZeL bt n).length cl,.slice pb pn pc] W fun e w'=>e= .returned (.bool mb)/\Ext W w':=fun mb Mz bl cl W hW C5 hI=>
   Zm6 a b c m base n cap L (ZeL bt n) bl _ cl pb pn pc pk mb W hs A2 (hS.ext hW) rfl (by omega) Jw.2 Mz hI No hu (Le.ext hW)
  rcases Zlv (apA a b c L (ZeL bt n)) with h|h|h
  ·-- not certain
   obtain⟨p,q,x,y,ht,k,hk,Nl,Ej⟩:=ZmI Jw.1 h;have Ka:=ht;obtain⟨hp,hq,Oo,hx,hy⟩:=ht;have Ck:=Aj p hp;have Jv:=Aj q hq;obtain⟨pi,rfl⟩:=Int.eq_ofNat_of_zero_le Ck.1;obtain⟨qi,rfl⟩:=Int.eq_ofNat_of_zero_le Jv.1;rw[Int.toNat_natCast] at hx hy;obtain⟨bs,off,rfl,D1,_⟩:=hS pi x hx;obtain⟨mb,Mz⟩:∃mb:Bool,mb=true↔Mtd a b c (ZlZ L pk) (ZeL bt n):=by
    by_cases h:Mtd a b c (ZlZ L pk) (ZeL bt n)
    ·exact⟨true,⟨fun _=>h,fun _=>rfl⟩⟩
    ·exact⟨false,⟨fun e=>(by cases e),fun e=>absurd e h⟩⟩
   have Fw:=Az.ok x (List.mem_of_getElem? hx) k;have Ht:=Az.ok y (List.mem_of_getElem? hy) k;obtain⟨u,v,Ln⟩:∃u v:Int,if(spA x k).2 - (spA y k).1<(spA y k).2 - (spA x k).1 then u=(spA x k).1/\v=(spA y k).2 else u=(spA x k).2/\v=(spA y k).1:=by
    by_cases hc:(spA x k).2 - (spA y k).1<(spA y k).2 - (spA x k).1
    ·exact⟨_,_,by rw[if_pos hc];exact⟨rfl,rfl⟩⟩
    ·exact⟨_,_,by rw[if_neg hc];exact⟨rfl,rfl⟩⟩
   obtain⟨Dg,I0⟩:=ZmT hs Jw.1 Aj Ka hk Nl Ln;simp only[Int.toNat_natCast] at Dg I0;have Jr:Zr (apA a b c L (ZeL bt n))≠2:=by omega
   rw[h] at Hx;refine ZmL a b c m bt bs off n cap pb pn pc w (ZeL bt n) _ (apA a b c L (ZeL bt n)) _ D1 (by omega) L A2 hS mb (by have:=(List.getElem?_eq_some_iff.1 Ej).1;omega) pi qi k x y Ej (by omega) (by omega) hk hx hy _ _ _ _ u v rfl rfl rfl rfl (by omega) Ln Gq K5 Hx K6 (K7 mb Mz) Bb (fun g o cp bl cl W hW C5 hR hI=> ?_) (fun bl cl W hW hI=> ?_) (fun LL g o cp bl cl W hC hW C5 hR hI=> ?_)
   ·have:=C9 _ (some ⟨g,o,none⟩) cp bl cl W hW Dg (by rw[Zlb,Zlb];exact A2) C5 hR hI;rw[I0] at this;exact this
   ·refine(ZmH a b c m bs off n cap L (ZeL bt n) bl _ cl W (hW.lt D1) A2 (by omega) Dn rfl (by omega) Jw.2 (hS.ext hW) hI).mono ?_;rintro e w2 ⟨g,o,cp,LL,rfl,_,hR,hC,hE⟩;exact⟨g,o,cp,LL,rfl,hR,hC,hE⟩
   ·obtain⟨h1,h2⟩:=Cl.done hC.out hs Jw.1 Aj Jr;have:=C9 LL (some ⟨g,o,none⟩) cp bl cl W hW h1 (hC.out.1.trans A2) C5 hR hI;rw[h2] at this;exact this
  ·have hA:apA a b c L (ZeL bt n)=[]:=Zey.1 h;rw[h] at Hx;exact ZmQ a b c m bt base n cap pb pn pc w (ZeL bt n) _ (apA a b c L (ZeL bt n)) _ (by rw[hA];rfl) Gq K5 Hx K6 (K7 true ⟨fun _=>Zmt Az Jw.1 Aj Ul h,fun _=>rfl⟩) Bb
  ·have hA:apA a b c L (ZeL bt n)≠[]:=fun e=>by have:=Zey.2 e;omega
   rw[h] at Hx;exact ZmS a b c m bt base n cap pb pn pc w (ZeL bt n) _ (apA a b c L (ZeL bt n)) _ (List.length_pos_iff.2 hA) Gq K5 Hx K6 (K7 false ⟨fun e=>(by cases e),fun e=>absurd e (ZmO Az Jw.1 Aj Ul h)⟩) Bb
end Go.Proofs.Tryq
section
set_option maxRecDepth 100000
namespace Go.Proofs.YtedkbdkbbnemlaaGreatDoor
open Go
namespace JarrowTrue
theorem k0:Rows.arrowTrueRow.wf (OpenSpec.ofChange Rows.arrowTrueSpec)=true:=by kernel_rfl
theorem k1:laidOutB Tryz.prog=true:=by kernel_rfl
theorem k2:mapsRowed Tryz.prog=true:=by kernel_rfl
theorem k3:Tryz.f4.params.all (Tryz.prog.readableRec ·)=true:=by kernel_rfl
theorem k4:namedTie Tryz.prog Rows.arrowTrueRow.named Rows.arrowTrueSpec.vars=true:=by kernel_rfl
theorem k5:(Rows.arrowTrueRow.stops==[])=true:=by kernel_rfl
theorem k6:(Tryz.prog.stops==[])=true:=by kernel_rfl
theorem k7:(Rows.arrowTrueRow.knobs==[])=true:=by kernel_rfl
theorem k8:(Tryz.prog.stopKnobs==[])=true:=by kernel_rfl
theorem k9:(Rows.arrowTrueRow.inPlace==Tryz.prog.inPlace 4)=true:=by kernel_rfl
theorem k10:(Rows.arrowTrueRow.unfollowed==Tryz.prog.unfollowed 4)=true:=by kernel_rfl
theorem k11:(Rows.arrowTrueRow.recurses==Tryz.prog.recurses 4)=true:=by kernel_rfl
theorem k12:(Rows.arrowTrueRow.named==Tryz.prog.varsNamed 4)=true:=by kernel_rfl
theorem k13:(Rows.arrowTrueRow.maps==(Tryz.f4.params.toList++Rows.arrowTrueSpec.plain.varTypes Tryz.prog).any (Tryz.prog.mapsRec ·))=true:=by kernel_rfl
theorem k14:(Rows.arrowTrueRow.ifaces==(Tryz.f4.params.toList++Rows.arrowTrueSpec.plain.varTypes Tryz.prog).any (Tryz.prog.ifacesRec ·))=true:=by kernel_rfl
theorem k15:(Rows.arrowTrueRow.mapsOut==Tryz.prog.mapsAmong Tryz.f4.resultTypes.toList)=true:=by kernel_rfl
theorem k16:(Rows.arrowTrueRow.loops==(Tryz.f4.params.toList++Rows.arrowTrueSpec.plain.varTypes Tryz.prog).any (Tryz.prog.loopsFrom ·))=true:=by kernel_rfl
theorem k17:(Rows.arrowTrueRow.wideKeys==(Tryz.f4.params.toList++Rows.arrowTrueSpec.plain.varTypes Tryz.prog++Tryz.f4.resultTypes.toList).any (Tryz.prog.wideKeysFrom ·))=true:=by kernel_rfl
theorem k18:Rows.arrowTrueSpec.vars.all (Tryz.prog.varReadable ·)=true:=by kernel_rfl
theorem k19:Tryz.f4.resultTypes.all (fun t=>Tryz.prog.readableRec t&&decide (t<Tryz.prog.types.size))=true:=by kernel_rfl
theorem k20:(Rows.arrowTrueRow.ifacesOut==Tryz.f4.resultTypes.toList.any (Tryz.prog.ifacesRec ·))=true:=by kernel_rfl
theorem k21:(Rows.arrowTrueRow.loopsOut==Tryz.f4.resultTypes.toList.any (Tryz.prog.loopsFrom ·))=true:=by kernel_rfl
theorem k22:(Rows.arrowTrueRow.plainKeys==Tryz.prog.plainKeys)=true:=by kernel_rfl
theorem k23:Rows.arrowTrueRow.shortTexts.isNone=true:=by kernel_rfl
theorem k24:Tryz.prog.stopsHeard=true:=by kernel_rfl
theorem k25:Tryz.prog.mayEnter=true:=by kernel_rfl
theorem k26:(Rows.arrowTrueRow.lifted==Tryz.prog.liftsFinal)=true:=by kernel_rfl
theorem k27:(Tryz.prog.make==some Rows.arrowTrueRow.make)=true:=by kernel_rfl
theorem k28:(Rows.arrowTrueRow.kinds==(if Rows.arrowTrueRow.domain.isEmpty then[] else Tryz.f4.params.toList.map fun t=>match Tryz.prog.underlying t with|some (.int k)=>some k|_=>none))=true:=by kernel_rfl
theorem k29:(Rows.arrowTrueRow.pinned==Rows.arrowTrueRow.pinnedBy)=true:=by kernel_rfl
theorem k30:(Rows.arrowTrueRow.veiled==(Tryz.f4.params.toList++Rows.arrowTrueSpec.plain.varTypes Tryz.prog++Tryz.f4.resultTypes.toList).any (Tryz.prog.veiledRec ·))=true:=by kernel_rfl
theorem k31:Rows.arrowTrueRow.veiledFits Tryz.prog Tryz.f4.params.toList (Tryz.f4.params.toList++Rows.arrowTrueSpec.plain.varTypes Tryz.prog++Tryz.f4.resultTypes.toList)=true:=by kernel_rfl
theorem ZI{a b:Bool}(ha:a=true)(hb:b=true):(a&&b)=true:=by rw[ha,hb];rfl
theorem facts:joinedFacts Tryz.prog 4 Tryz.f4 Rows.arrowTrueSpec Rows.arrowTrueRow=true:=(ZI (ZI (ZI (ZI (ZI (ZI (ZI (ZI (ZI (ZI (ZI (ZI (ZI (ZI (ZI (ZI (ZI (ZI (ZI (ZI (ZI (ZI (ZI (ZI (ZI (ZI (ZI (ZI (ZI (ZI (ZI k0 k1) k2) k3) k4) k5) k6) k7) k8) k9) k10) k11) k12) k13) k14) k15) k16) k17) k18) k19) k20) k21) k22) k23) k24) k25) k26) k27) k28) k29) k30) k31)
end JarrowTrue
end Go.Proofs.YtedkbdkbbnemlaaGreatDoor
end
namespace Go.Proofs.Tryq
set_option maxRecDepth 100000
open Go Go.Nk Go.RowKit Go.ChangeShapes Go.WideShapes Go.ChangeAt Go.Conc Go.Deep
attribute [local instance] theBan
section
variable {H:Type} {enc:TypeId×Value->H} {W:World} {b0:Nat}
theorem Zf4{t:TypeId}{k:IntKind}(hu:Tryz.prog.underlying t=some (.int k))(hs:isS Tryz.prog t=false)(ha:isA Tryz.prog t=false)(hl:(Z3e Tryz.prog 0 t 0).any (fun y=>y.1==0&&y.2==t)=true)(Eb:Tryz.prog.cellsOf t=1){v:Value}{d:DataW H}{p:List MemPlace}(hv:Value.okWide Tryz.prog W .any b0 t v)(h:DataW.Trod enc Tryz.prog W 0 (fun _=>true) true t v d p):
 ∃n:Int,v= .int k n/\(Lit.int k n).wf=true/\VRel id (Nk.Live (Zx W)) v v:=by
 have hc:=Zei hv hs ha;obtain⟨fuel,hf⟩:=h;have e:v.cells.toList=[v]:=by
  cases v<;>first|rfl|skip
  rename_i cs;simp[Cell.okWide,Cell.ok,hu] at hc
 rw[e] at hf;have Ae:[v].length<=Tryz.prog.cellsOf t:=by rw[Eb];exact Nat.le_refl _
 obtain⟨x1,e1,hw⟩:=Z0z (n:=0) (o:=0) (u:=t) Ae ⟨_,_,hf⟩ hl hu;obtain rfl:v= .int k x1:=by simpa using e1
 exact⟨x1,rfl,hw,.int _ _⟩
theorem Zf7{n:Int}(h:(Lit.int .u16 n).wf=true):0<=n/\n<65536:=by
 have h1:IntKind.u16.min=0:=rfl;have h2:IntKind.u16.max=65535:=rfl;simp only[Lit.wf,Bool.and_eq_true,decide_eq_true_eq] at h;omega
theorem under40:Tryz.prog.underlying 40=some (.int .u16):=by kernel_rfl
theorem ZeQ{v:Value}{d:DataW H}{p:List MemPlace}(hv:Value.okWide Tryz.prog W .any b0 40 v)(h:DataW.Trod enc Tryz.prog W 0 (fun _=>true) true 40 v d p):∃n:Int,v= .int .u16 n/\(Lit.int .u16 n).wf=true/\VRel id (Nk.Live (Zx W)) v v:=
 Zf4 under40 (by kernel_rfl) (by kernel_rfl) (by kernel_rfl) (by kernel_rfl) hv h
end
section
variable {H:Type} {enc:TypeId×Value->H} {W:World} {b0:Nat}
theorem under41:Tryz.prog.underlying 41=some (.slice 40):=by kernel_rfl
theorem cells40:Tryz.prog.cellsOf 40=1:=by kernel_rfl
theorem Zgs{v:Value}{d:DataW H}{p:List MemPlace}(hv:Value.okWide Tryz.prog W .any b0 41 v)(h:DataW.Trod enc Tryz.prog W 0 (fun _=>true) true 41 v d p):
 ∃(base:Option Addr)(n cap:Nat)(l:List Int),v= .slice base n cap/\l.length=n/\n<=cap/\cap<=maxLen/\VRel id (Nk.Live (Zx W)) v v/\RawU W base l/\∀y∈l,(Lit.int .u16 y).wf=true:=by
 have hc:=Zei hv (by kernel_rfl) (by kernel_rfl);obtain⟨fuel,hf⟩:=h;have e:v.cells.toList=[v]:=by
  cases v<;>first|rfl|skip
  rename_i cs;unfold Cell.okWide at hc;simp only[under41] at hc;exact hc.elim
 rw[e] at hf;obtain⟨base,n,cap,e,hn,hm,hr,Px⟩:=Z5V under41 cells40 (by decide) ⟨_,hc⟩ hf;have key:∀i,i<n->∃x:Int,(∃b off,base=some ⟨b,off,none⟩/\b<W.heap.size/\W.cell? ⟨b,off+i,none⟩=some (.int .u16 x))/\(Lit.int .u16 x).wf=true:=by
  intro i hi;obtain⟨b,off,h1,h2,cs,h3,h4,h5⟩:=Px i hi;have Ae:cs.length<=Tryz.prog.cellsOf 40:=by rw[cells40];omega
  obtain⟨x1,e1,hw⟩:=Z0z (n:=0) (o:=0) (u:=40) Ae h5 (by kernel_rfl) under40;have:=(h4 0 (by omega)).trans e1;rw[Nat.mul_one,Nat.add_zero] at this;exact⟨x1,⟨b,off,h1,h2,this⟩,hw⟩
 obtain⟨L,Cb,Me⟩:=Zaa n key;exact⟨base,n,cap,L,e,Cb,hn,hm,hr,fun i x hx=>(Me i x hx).1,fun y hy=>by obtain⟨i,hi⟩:=List.mem_iff_getElem?.1 hy;exact(Me i y hi).2⟩
end
theorem Zgt{W:World}{base:Option Addr}{l:List Int}(h:RawU W base l):RawU (Zx W) base l:=fun i x hi=>by
 obtain⟨b,off,h1,h2,h3⟩:=h i x hi;exact⟨b,off,h1,by rw[Z1l];exact h2,Z0d rfl h3 rfl⟩
theorem Zgy{W:World}(t){base:Option Addr}{l:List Int}(h:RawU W base l):RawU (retape t W) base l:=fun i x hi=>by
 obtain⟨b,off,h1,h2,h3⟩:=h i x hi;exact⟨b,off,h1,h2,h3⟩
end Go.Proofs.Tryq
namespace Go.Proofs.YtedkbdkbbnemlaaGreatDoor
set_option maxRecDepth 100000
open Go Go.Nk Go.RowKit Go.ChangeShapes Go.WideShapes Go.ChangeAt Go.Conc
open Go.Proofs.Tryq
attribute [local instance] theBan
theorem ZmE(os:Os)(started:os.Started)(H:Type)(enc:TypeId×Value->H):
 ReturnsInLeavingWide {} Tryz.checked os 4 .any (fun w args=>(Rows.arrowTrueSpec.pre enc Tryz.prog Tryz.f4 [] false w args/\laidMetH Tryz.prog laidL w)/\sizedMet enc Tryz.prog Tryz.f4 (OpenSpec.ofChange Rows.arrowTrueSpec) false w args)
  (Rows.arrowTrueSpec.post enc Tryz.prog Tryz.f4 false true false false):=by
 refine Z4e (n:=3) (ts:=[26,40,41]) started (by simp[keptList]) Tryz.func4 same4 (by kernel_rfl) Tryz.results4 (by kernel_rfl) (by rw[Tryz.params4]) rfl rfl (by kernel_rfl) (fun ds hd=>by
  match ds,hd with
  |[_,_,_],_=>rfl) (by kernel_rfl)
  (ChangeSpec.witness_shaped (enc:=enc) (C:=Tryz.checked) (os:=os) (X:=fun w _=>laidMetH Tryz.prog laidL w) false (World.doorLaid Tryz.prog 400 os) #[.agg #[.int .i64 0,.int .i64 0,.int .i64 0,.int .i64 0,.slice none 0 0],.int .u16 0,.slice none 0 0] 8 rfl (Z3F os _) (by kernel_rfl) (by kernel_rfl) (by kernel_rfl) (Z7C os _)) ?_
 intro W base args ds p Fm hA hM Dv hd;rw[Tryz.params4] at Fm;obtain⟨v0,v1,v2,dx0,dx1,dx2,px0,px1,px2,rfl,rfl,rfl,h0,h1,h2⟩:=trodAll_three hA;obtain⟨a0,b0,c0,d0,ab0,n0,k0,S0,rfl,hL0,Nl,D5,E2,J4,N9⟩:=Z4c (Fm 0 26 v0 rfl rfl) h0;obtain⟨u1,rfl,Jy,E7⟩:=ZeQ (Fm 1 40 v1 rfl rfl) h1;obtain⟨ab2,n2,k2,S2,rfl,Me,Sd,E0,Cj,Fb,Dp⟩:=Zgs (Fm 2 41 v2 rfl rfl) h2;refine⟨((AR.nil.push E2).push E7).push Cj,fun t=> ?_⟩;exact ZmF a0 b0 c0 d0 u1 ab0 n0 k0 S0 ab2 n2 k2 S2 (retape t (Zx W)) hL0 Nl (Zf7 Jy) Me (fun x hx=>Zf7 (Dp x hx)) hM (Za7 t Dv) hd (Za8 t (Z5T J4)) (Zgy t (Zgt Fb))
theorem arrowTrue_row:Rows.ArrowTrueSaid:=
 OpenClaim.holds_of_wide_leaving 4 Tryz.f4 rfl rfl rfl rfl rfl rfl rfl ⟨rfl,rfl,rfl,rfl,rfl⟩ rfl rfl rfl rfl rfl (by kernel_rfl) Tryz.func4 JarrowTrue.facts
  (of_decide_eq_true (by kernel_rfl)) (by unfold Func.isWrapper;first|(rw[if_pos (by decide+kernel)];kernel_rfl)|(rw[if_neg (by decide+kernel)];exact⟨rfl,rfl⟩))
  (fun os started H enc _=>ZmE os started H enc)
theorem arrowTrue_card:Rows.ArrowTrueCardSaid:=
 Zac .later [.data,.data,.data,.funcs] true (true,"0e1059176c690520e63ed0d32383d6ff1680ebd08dcb3a61820afc84c46f7b58") false
  arrowTrue_row (by kernel_rfl) arrowTrue_row_tie rfl ⟨rfl,rfl⟩ (by kernel_rfl) rfl
  (fun f fn hf hfn=>by
    obtain rfl:f=4:=Option.some.inj ((show Tryz.prog.funcNamed "nock/nocklaw01.ArrowTrue" =some 4 by kernel_rfl).symm.trans hf) |>.symm
    obtain rfl:fn=Tryz.f4:=(Option.some.inj (Tryz.func4.symm.trans hfn)).symm
    exact⟨by kernel_rfl,fun j t ht=>by
     rw[Tryz.params4] at ht;have hm:t∈[26,40,41]:=(by simpa using Array.mem_of_getElem? ht);have Ah:([26,40,41].all fun u=> !Tryz.prog.wantsStandIn u)=true:=(by kernel_rfl);exact(show Tryz.prog.wantsStandIn t=false by simpa using List.all_eq_true.1 Ah t hm)⟩)
  (by kernel_rfl)
end Go.Proofs.YtedkbdkbbnemlaaGreatDoor
