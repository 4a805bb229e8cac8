/- nocklaw01.ArrowMarks: for every card, all distances and marks the call returns true, on every schedule and without a data race; its arguments read afterwards as they read before; nothing that was in memory is changed; at the return no other goroutine does more than leave. The card ties the four listed package variables to the program's text. Conditions: none beyond the card's own (the listed variables hold what the program's text lays). The texts of this claim were shortened by program (no remarks, short names) to fit the bounds on a claim's size; their long form lies in the repository's folder wip. -/
import Derived.Test.YtedkbdkbbnemlaaGreatDoorNk30
import Derived.Carry
import Derived.JoinedOf
import Derived.KernelRfl
import Derived.Test.YtedkbdkbbnemlaaGreatDoorRows
set_option linter.all false
namespace Go.Proofs.Tryq
set_option maxRecDepth 100000
set_option maxHeartbeats 8000000
open Go Go.Nk Go.RowKit
set_option linter.all false
theorem Zkz(r0 r1 r2 r3 a b m k:Int)(base:Option Addr)(n cap:Nat)(w:World)(hn:20<n)
 (Bg:∀W,Ext w W->Calls prog 22 #[] W fun e w'=>e= .returned (.bool true)/\Ext W w'):
 Calls prog 19 #[.agg #[.int .i64 r0,.int .i64 r1,.int .i64 r2,.int .i64 r3,.slice base n cap],.int .i64 a,.int .i64 b,.int .i64 m,.int .i64 k] w fun e w'=>e= .returned (.bool true):=by
 have hr:=(Z3 w (.cells #[.int .i64 r0,.int .i64 r1,.int .i64 r2,.int .i64 r3,.slice base n cap] 70) w.heap.size).trans (if_pos rfl);have hE:=(Ext.rfl' w).alloc (.cells #[.int .i64 r0,.int .i64 r1,.int .i64 r2,.int .i64 r3,.slice base n cap] 70);obtain⟨q0,q1,q2,q3,q4⟩:=ZgE hr;have Jr:(20:Int)<(n:Int):=by omega
 go_enter func19,ntmps19
 go_wp2_with (first
  |(go_at_call 22;refine(Bg _ hE).mono ?_;rintro e w3 ⟨rfl,Am⟩))
 go_ret;exact rfl
theorem ZkB(r0 r1 r2 r3 a b m k:Int)(base:Option Addr)(n cap:Nat)(w:World)(x1 x2 f1 hv f2 b1 b2 wd w1 w2 f3 f4:Int)(L:List Int)(hn:n<=20)(hL8:L.length<=1000000)
 (h45:∀W,Ext w W->Calls prog 45 #[.agg #[.int .i64 r0,.int .i64 r1,.int .i64 r2,.int .i64 r3,.slice base n cap],.int .i64 a] W fun e w'=>e= .returned (.tuple #[.agg #[.int .i64 x1,.int .i64 x2],.int .i64 f1])/\Ext W w')
 (h77:∀W,Ext w W->Calls prog 77 #[.agg #[.int .i64 r0,.int .i64 r1,.int .i64 r2,.int .i64 r3,.slice base n cap],.int .i64 a] W fun e w'=>e= .returned (.tuple #[.agg #[.int .i64 x1,.int .i64 x2],.int .i64 f1])/\Ext W w')
 (h53:∀W,Ext w W->Calls prog 53 #[.agg #[.int .i64 r0,.int .i64 r1,.int .i64 r2,.int .i64 r3,.slice base n cap],.int .i64 a,.int .i64 m,.int .i64 k] W fun e w'=>e= .returned (.tuple #[.int .i64 hv,.int .i64 f2])/\Ext W w')
 (h78:∀W,Ext w W->Calls prog 78 #[.agg #[.int .i64 r0,.int .i64 r1,.int .i64 r2,.int .i64 r3,.slice base n cap],.int .i64 a,.int .i64 m,.int .i64 k] W fun e w'=>e= .returned (.tuple #[.int .i64 hv,.int .i64 f2])/\Ext W w')
 (h51:∀W,Ext w W->Calls prog 51 #[.agg #[.int .i64 r0,.int .i64 r1,.int .i64 r2,.int .i64 r3,.slice base n cap],.int .i64 a] W fun e w'=>e= .returned (.tuple #[.int .i64 b1,.int .i64 b2,.int .i64 f1])/\Ext W w')
 (h79:∀W,Ext w W->Calls prog 79 #[.agg #[.int .i64 r0,.int .i64 r1,.int .i64 r2,.int .i64 r3,.slice base n cap],.int .i64 a] W fun e w'=>e= .returned (.tuple #[.int .i64 b1,.int .i64 b2,.int .i64 f1])/\Ext W w')
 (h52:∀W,Ext w W->Calls prog 52 #[.agg #[.int .i64 r0,.int .i64 r1,.int .i64 r2,.int .i64 r3,.slice base n cap],.int .i64 a,.int .i64 b] W fun e w'=>e= .returned (.tuple #[.int .i64 wd,.agg #[.int .i64 w1,.int .i64 w2],.int .i64 f3])/\Ext W w')
 (h80:∀W,Ext w W->Calls prog 80 #[.agg #[.int .i64 r0,.int .i64 r1,.int .i64 r2,.int .i64 r3,.slice base n cap],.int .i64 a,.int .i64 b] W fun e w'=>e= .returned (.tuple #[.int .i64 wd,.agg #[.int .i64 w1,.int .i64 w2],.int .i64 f3])/\Ext W w')
 (h81:∀W,Ext w W->Calls prog 81 #[.agg #[.int .i64 r0,.int .i64 r1,.int .i64 r2,.int .i64 r3,.slice base n cap]] W fun e w'=>∃bl cl,e= .returned (.tuple #[.slice bl L.length cl,.int .i64 f4])/\RawI w' bl L/\Ext W w')
 (h82:∀W,Ext w W->Calls prog 82 #[.agg #[.int .i64 r0,.int .i64 r1,.int .i64 r2,.int .i64 r3,.slice base n cap]] W fun e w'=>∃bl cl,e= .returned (.tuple #[.slice bl L.length cl,.int .i64 f4])/\RawI w' bl L/\Ext W w')
 (Bg:∀W,Ext w W->Calls prog 22 #[] W fun e w'=>e= .returned (.bool true)/\Ext W w'):
 Calls prog 19 #[.agg #[.int .i64 r0,.int .i64 r1,.int .i64 r2,.int .i64 r3,.slice base n cap],.int .i64 a,.int .i64 b,.int .i64 m,.int .i64 k] w fun e w'=>e= .returned (.bool true):=by
 have hr:=(Z3 w (.cells #[.int .i64 r0,.int .i64 r1,.int .i64 r2,.int .i64 r3,.slice base n cap] 70) w.heap.size).trans (if_pos rfl);have hE:=(Ext.rfl' w).alloc (.cells #[.int .i64 r0,.int .i64 r1,.int .i64 r2,.int .i64 r3,.slice base n cap] 70);obtain⟨q0,q1,q2,q3,q4⟩:=ZgE hr;have Jr:¬(20:Int)<(n:Int):=by omega
 go_enter func19,ntmps19
 go_wp2_with (first
  |(go_at_call 45;refine(h45 _ hE).mono ?_;rintro e w3 ⟨rfl,hF⟩
    have lr:=Z5 (hF.get hr);have hx:=(Z3 w3 (.cells #[.int .i64 x1,.int .i64 x2] 48) w3.heap.size).trans (if_pos rfl);replace hF:=hF.alloc (.cells #[.int .i64 x1,.int .i64 x2] 48);replace hr:=hF.get hr;replace hE:=hE.trans hF;clear q0 q1 q2 q3 q4;obtain⟨q0,q1,q2,q3,q4⟩:=ZgE hr)
  |(go_at_call 77;refine(h77 _ hE).mono ?_;rintro e w4 ⟨rfl,hF⟩
    have lx:=Z5 (hF.get hx);have hy:=(Z3 w4 (.cells #[.int .i64 x1,.int .i64 x2] 48) w4.heap.size).trans (if_pos rfl);replace hF:=hF.alloc (.cells #[.int .i64 x1,.int .i64 x2] 48);replace hx:=hF.get hx;replace hr:=hF.get hr;replace hE:=hE.trans hF;clear q0 q1 q2 q3 q4;obtain⟨q0,q1,q2,q3,q4⟩:=ZgE hr;have zx:=Zc hx;have x0:=zx.1;have x9:=zx.2.1;have xf:=zx.2.2.1;have xg:=zx.2.2.2;have zy:=Zc hy;have y0:=zy.1;have y9:=zy.2.1;have yf:=zy.2.2.1;have yg:=zy.2.2.2;clear zx zy)
  |(go_at_call 53;refine(h53 _ hE).mono ?_;rintro e w5 ⟨rfl,hF⟩;replace hx:=hF.get hx;replace hy:=hF.get hy;clear x0 x9 xf xg y0 y9 yf yg;replace hr:=hF.get hr;replace hE:=hE.trans hF;clear q0 q1 q2 q3 q4;obtain⟨q0,q1,q2,q3,q4⟩:=ZgE hr)
  |(go_at_call 78;refine(h78 _ hE).mono ?_;rintro e w6 ⟨rfl,hF⟩;replace hx:=hF.get hx;replace hy:=hF.get hy;replace hr:=hF.get hr;replace hE:=hE.trans hF;clear q0 q1 q2 q3 q4;obtain⟨q0,q1,q2,q3,q4⟩:=ZgE hr)
  |(go_at_call 51;refine(h51 _ hE).mono ?_;rintro e w7 ⟨rfl,hF⟩;replace hx:=hF.get hx;replace hy:=hF.get hy;replace hr:=hF.get hr;replace hE:=hE.trans hF;clear q0 q1 q2 q3 q4;obtain⟨q0,q1,q2,q3,q4⟩:=ZgE hr)
  |(go_at_call 79;refine(h79 _ hE).mono ?_;rintro e w8 ⟨rfl,hF⟩;replace hx:=hF.get hx;replace hy:=hF.get hy;replace hr:=hF.get hr;replace hE:=hE.trans hF;clear q0 q1 q2 q3 q4;obtain⟨q0,q1,q2,q3,q4⟩:=ZgE hr)
  |(go_at_call 52;refine(h52 _ hE).mono ?_;rintro e w9 ⟨rfl,hF⟩;replace hx:=hF.get hx;replace hy:=hF.get hy;replace hr:=hF.get hr;replace hE:=hE.trans hF;clear q0 q1 q2 q3 q4 hF
    have zx:=Zc hx;have x0:=zx.1;have x9:=zx.2.1;have xf:=zx.2.2.1;have xg:=zx.2.2.2;have Of:=Zfl (i:=0) (j:=1) (u:=(.int .i64 w1)) (v:=(.int .i64 w2)) (show w.heap.size≠w3.heap.size by omega) hr;have Tg:=Zfl (i:=0) (j:=1) (u:=(.int .i64 w1)) (v:=(.int .i64 w2)) (show w4.heap.size≠w3.heap.size by omega) hy;have Th:=set_pair hx (.int .i64 w1) (.int .i64 w2);have Og:=(hE.setCell ⟨w3.heap.size,0,none⟩ (.int .i64 w1) (show w.heap.size<=w3.heap.size by omega)).setCell ⟨w3.heap.size,1,none⟩ (.int .i64 w2) (show w.heap.size<=w3.heap.size by omega);clear hr hx hy hE zx;obtain⟨q0,q1,q2,q3,q4⟩:=ZgE Of)
  |(go_at_call 80;refine(h80 _ Og).mono ?_;rintro e w10 ⟨rfl,hF⟩
    have hr:=hF.get Of;have hx:=hF.get Th;have hy:=hF.get Tg;have hE:=Og.trans hF;clear q0 q1 q2 q3 q4 hF Of Th Tg Og x0 x9 xf xg;have zy:=Zc hy;have y0:=zy.1;have y9:=zy.2.1;have yf:=zy.2.2.1;have yg:=zy.2.2.2;have Of:=Zfl (i:=0) (j:=1) (u:=(.int .i64 w1)) (v:=(.int .i64 w2)) (show w.heap.size≠w4.heap.size by omega) hr;have Th:=Zfl (i:=0) (j:=1) (u:=(.int .i64 w1)) (v:=(.int .i64 w2)) (show w3.heap.size≠w4.heap.size by omega) hx;have Tg:=set_pair hy (.int .i64 w1) (.int .i64 w2);have Og:=(hE.setCell ⟨w4.heap.size,0,none⟩ (.int .i64 w1) (show w.heap.size<=w4.heap.size by omega)).setCell ⟨w4.heap.size,1,none⟩ (.int .i64 w2) (show w.heap.size<=w4.heap.size by omega);clear hr hx hy hE zy;obtain⟨q0,q1,q2,q3,q4⟩:=ZgE Of;have sx:=Zc Th;have sx0:=sx.1;have sx1:=sx.2.1;have sy:=Zc Tg;have sy0:=sy.1;have sy1:=sy.2.1;clear sx sy)
  |(go_at_call 81;refine(h81 _ Og).mono ?_;rintro e w11 ⟨bl,cl,rfl,hI,hF⟩
    have hr:=hF.get Of;have hE:=Og.trans hF;clear q0 q1 q2 q3 q4 hF Of Th Tg Og y0 y9 yf yg sx0 sx1 sy0 sy1;obtain⟨q0,q1,q2,q3,q4⟩:=ZgE hr)
  |(go_at_call 82;refine(h82 _ hE).mono ?_;rintro e w12 ⟨bl2,cl2,rfl,E9,hF⟩
    replace hE:=hE.trans hF;replace hI:=hI.ext hF;clear q0 q1 q2 q3 q4 hF)
  |(go_at_call 58;refine(Z1d bl _ cl L bl2 _ cl2 L _ rfl rfl ⟨hL8,hL8⟩ hI E9).mono ?_;rw[decide_eq_true rfl];rintro e w13 ⟨rfl,hF⟩
    replace hE:=hE.trans hF;clear hF)
  |(go_at_call 22;refine(Bg _ hE).mono ?_;rintro e w14 ⟨rfl,hF⟩))
 go_ret;exact rfl
theorem Zks(r0 r1 r2 r3 a b m k:Int)(base:Option Addr)(n cap:Nat)(S:List Rs)(w:World)(A0:S.length=n)(hM:Meas w)(C0:Most w)(hd:Deb w)(hS:RawS w base S):
 Calls prog 19 #[.agg #[.int .i64 r0,.int .i64 r1,.int .i64 r2,.int .i64 r3,.slice base n cap],.int .i64 a,.int .i64 b,.int .i64 m,.int .i64 k] w fun e w'=>e= .returned (.bool true):=by
 have Bg:∀W,Ext w W->Calls prog 22 #[] W fun e w'=>e= .returned (.bool true)/\Ext W w':=fun W (hW:Ext w W)=>Zce W (hM.ext hW) (C0.ext hW) (hd.ext hW)
 by_cases hn:20<n
 ·exact Zkz r0 r1 r2 r3 a b m k base n cap w hn Bg
 ·have hn:n<=20:=by omega
  have hl:(ZjY r0 r1 r2 r3 S).length<=1000000:=by
   unfold ZjY;split
   ·have:=Zkc r0 r1 r2 r3 S S.length;omega
   ·simp
  refine ZkB r0 r1 r2 r3 a b m k base n cap w _ _ _ _ _ _ _ _ _ _ _ (ZjZ r0 r1 r2 r3 S) (ZjY r0 r1 r2 r3 S) hn hl
   (fun W hW=>Z86 r0 r1 r2 r3 base n cap W a S A0 (hS.ext hW) (C0.ext hW)) (fun W hW=>Zkv r0 r1 r2 r3 a base n cap S W A0 hn (hS.ext hW))
   (fun W hW=>Zc7 r0 r1 r2 r3 base n cap W a m k S A0 (hS.ext hW) (C0.ext hW)) (fun W hW=>ZkF r0 r1 r2 r3 a m k base n cap S W A0 hn (hS.ext hW))
   (fun W hW=>Zc8 r0 r1 r2 r3 base n cap W a S A0 (hS.ext hW) (C0.ext hW)) (fun W hW=>ZkE r0 r1 r2 r3 a base n cap S W A0 hn (hS.ext hW))
   (fun W hW=>Z8G r0 r1 r2 r3 base n cap W a b S A0 (hS.ext hW) (C0.ext hW)) (fun W hW=>Zkw r0 r1 r2 r3 a b base n cap S W A0 hn (hS.ext hW))
   (fun W hW=> ?_) (fun W hW=> ?_) Bg
  ·refine(Zk9 r0 r1 r2 r3 base n cap S W A0 (hS.ext hW) (C0.ext hW)).mono ?_;rintro e w' ⟨v,rfl,hv,hE⟩;obtain⟨bl,cl,rfl,hI,_⟩:=hv.rawI;exact⟨bl,cl,rfl,hI,hE⟩
  ·refine(Zky r0 r1 r2 r3 base n cap S W A0 hn (hS.ext hW)).mono ?_;rintro e w' ⟨v,rfl,hv,hE⟩;obtain⟨bl,cl,rfl,hI,_⟩:=hv.rawI;exact⟨bl,cl,rfl,hI,hE⟩
end Go.Proofs.Tryq
section
set_option maxRecDepth 100000
namespace Go.Proofs.YtedkbdkbbnemlaaGreatDoor
open Go
namespace JarrowMarks
theorem k0:Rows.arrowMarksRow.wf (OpenSpec.ofChange Rows.arrowMarksSpec)=true:=by kernel_rfl
theorem k1:laidOutB Tryz.prog=true:=by kernel_rfl
theorem k2:mapsRowed Tryz.prog=true:=by kernel_rfl
theorem k3:Tryz.f19.params.all (Tryz.prog.readableRec ·)=true:=by kernel_rfl
theorem k4:namedTie Tryz.prog Rows.arrowMarksRow.named Rows.arrowMarksSpec.vars=true:=by kernel_rfl
theorem k5:(Rows.arrowMarksRow.stops==[])=true:=by kernel_rfl
theorem k6:(Tryz.prog.stops==[])=true:=by kernel_rfl
theorem k7:(Rows.arrowMarksRow.knobs==[])=true:=by kernel_rfl
theorem k8:(Tryz.prog.stopKnobs==[])=true:=by kernel_rfl
theorem k9:(Rows.arrowMarksRow.inPlace==Tryz.prog.inPlace 19)=true:=by kernel_rfl
theorem k10:(Rows.arrowMarksRow.unfollowed==Tryz.prog.unfollowed 19)=true:=by kernel_rfl
theorem k11:(Rows.arrowMarksRow.recurses==Tryz.prog.recurses 19)=true:=by kernel_rfl
theorem k12:(Rows.arrowMarksRow.named==Tryz.prog.varsNamed 19)=true:=by kernel_rfl
theorem k13:(Rows.arrowMarksRow.maps==(Tryz.f19.params.toList++Rows.arrowMarksSpec.plain.varTypes Tryz.prog).any (Tryz.prog.mapsRec ·))=true:=by kernel_rfl
theorem k14:(Rows.arrowMarksRow.ifaces==(Tryz.f19.params.toList++Rows.arrowMarksSpec.plain.varTypes Tryz.prog).any (Tryz.prog.ifacesRec ·))=true:=by kernel_rfl
theorem k15:(Rows.arrowMarksRow.mapsOut==Tryz.prog.mapsAmong Tryz.f19.resultTypes.toList)=true:=by kernel_rfl
theorem k16:(Rows.arrowMarksRow.loops==(Tryz.f19.params.toList++Rows.arrowMarksSpec.plain.varTypes Tryz.prog).any (Tryz.prog.loopsFrom ·))=true:=by kernel_rfl
theorem k17:(Rows.arrowMarksRow.wideKeys==(Tryz.f19.params.toList++Rows.arrowMarksSpec.plain.varTypes Tryz.prog++Tryz.f19.resultTypes.toList).any (Tryz.prog.wideKeysFrom ·))=true:=by kernel_rfl
theorem k18:Rows.arrowMarksSpec.vars.all (Tryz.prog.varReadable ·)=true:=by kernel_rfl
theorem k19:Tryz.f19.resultTypes.all (fun t=>Tryz.prog.readableRec t&&decide (t<Tryz.prog.types.size))=true:=by kernel_rfl
theorem k20:(Rows.arrowMarksRow.ifacesOut==Tryz.f19.resultTypes.toList.any (Tryz.prog.ifacesRec ·))=true:=by kernel_rfl
theorem k21:(Rows.arrowMarksRow.loopsOut==Tryz.f19.resultTypes.toList.any (Tryz.prog.loopsFrom ·))=true:=by kernel_rfl
theorem k22:(Rows.arrowMarksRow.plainKeys==Tryz.prog.plainKeys)=true:=by kernel_rfl
theorem k23:Rows.arrowMarksRow.shortTexts.isNone=true:=by kernel_rfl
theorem k24:Tryz.prog.stopsHeard=true:=by kernel_rfl
theorem k25:Tryz.prog.mayEnter=true:=by kernel_rfl
theorem k26:(Rows.arrowMarksRow.lifted==Tryz.prog.liftsFinal)=true:=by kernel_rfl
theorem k27:(Tryz.prog.make==some Rows.arrowMarksRow.make)=true:=by kernel_rfl
theorem k28:(Rows.arrowMarksRow.kinds==(if Rows.arrowMarksRow.domain.isEmpty then[] else Tryz.f19.params.toList.map fun t=>match Tryz.prog.underlying t with|some (.int k)=>some k|_=>none))=true:=by kernel_rfl
theorem k29:(Rows.arrowMarksRow.pinned==Rows.arrowMarksRow.pinnedBy)=true:=by kernel_rfl
theorem k30:(Rows.arrowMarksRow.veiled==(Tryz.f19.params.toList++Rows.arrowMarksSpec.plain.varTypes Tryz.prog++Tryz.f19.resultTypes.toList).any (Tryz.prog.veiledRec ·))=true:=by kernel_rfl
theorem k31:Rows.arrowMarksRow.veiledFits Tryz.prog Tryz.f19.params.toList (Tryz.f19.params.toList++Rows.arrowMarksSpec.plain.varTypes Tryz.prog++Tryz.f19.resultTypes.toList)=true:=by kernel_rfl
theorem ZI{a b:Bool}(ha:a=true)(hb:b=true):(a&&b)=true:=by rw[ha,hb];rfl
theorem facts:joinedFacts Tryz.prog 19 Tryz.f19 Rows.arrowMarksSpec Rows.arrowMarksRow=true:=(ZI (ZI (ZI (ZI (ZI (ZI (ZI (ZI (ZI (ZI (ZI (ZI (ZI (ZI (ZI (ZI (ZI (ZI (ZI (ZI (ZI (ZI (ZI (ZI (ZI (ZI (ZI (ZI (ZI (ZI (ZI k0 k1) k2) k3) k4) k5) k6) k7) k8) k9) k10) k11) k12) k13) k14) k15) k16) k17) k18) k19) k20) k21) k22) k23) k24) k25) k26) k27) k28) k29) k30) k31)
end JarrowMarks
end Go.Proofs.YtedkbdkbbnemlaaGreatDoor
end
namespace Go.Proofs.Tryq
set_option maxRecDepth 100000
open Go Go.Nk Go.RowKit Go.ChangeShapes Go.WideShapes Go.ChangeAt Go.Conc Go.Deep
attribute [local instance] theBan
section
variable {H:Type} {enc:TypeId×Value->H} {W:World} {b0:Nat}
theorem Zf4{t:TypeId}{k:IntKind}(hu:Tryz.prog.underlying t=some (.int k))(hs:isS Tryz.prog t=false)(ha:isA Tryz.prog t=false)(hl:(Z3e Tryz.prog 0 t 0).any (fun y=>y.1==0&&y.2==t)=true)(Ee:Tryz.prog.cellsOf t=1){v:Value}{d:DataW H}{p:List MemPlace}(hv:Value.okWide Tryz.prog W .any b0 t v)(h:DataW.Trod enc Tryz.prog W 0 (fun _=>true) true t v d p):
 ∃n:Int,v= .int k n/\(Lit.int k n).wf=true/\VRel id (Nk.Live (Zx W)) v v:=by
 have hc:=Zei hv hs ha;obtain⟨fuel,hf⟩:=h;have e:v.cells.toList=[v]:=by
  cases v<;>first|rfl|skip
  rename_i cs;simp[Cell.okWide,Cell.ok,hu] at hc
 rw[e] at hf;have Aj:[v].length<=Tryz.prog.cellsOf t:=by rw[Ee];exact Nat.le_refl _
 obtain⟨x1,e1,hw⟩:=Z0z (n:=0) (o:=0) (u:=t) Aj ⟨_,_,hf⟩ hl hu;obtain rfl:v= .int k x1:=by simpa using e1
 exact⟨x1,rfl,hw,.int _ _⟩
theorem ZhO{v:Value}{d:DataW H}{p:List MemPlace}(hv:Value.okWide Tryz.prog W .any b0 3 v)(h:DataW.Trod enc Tryz.prog W 0 (fun _=>true) true 3 v d p):∃n:Int,v= .int .i64 n/\(Lit.int .i64 n).wf=true/\VRel id (Nk.Live (Zx W)) v v:=
 Zf4 under3 (by kernel_rfl) (by kernel_rfl) (by kernel_rfl) (by kernel_rfl) hv h
theorem under68:Tryz.prog.underlying 68=some (.slice 80):=by kernel_rfl
theorem cells80:Tryz.prog.cellsOf 80=5:=by kernel_rfl
theorem cells70:Tryz.prog.cellsOf 70=5:=by kernel_rfl
theorem Zg3{v:Value}{k:Nat}{x:DataW H×List MemPlace}(hv:∃u,Cell.okWide Tryz.prog W .any b0 u v)(h:DataW.trod enc Tryz.prog W 0 (fun _=>true) true k 68 [v]=some x):
 ∃(base:Option Addr)(n cap:Nat)(S:List Rs),v= .slice base n cap/\S.length=n/\n<=cap/\cap<=maxLen/\VRel id (Nk.Live (Zx W)) v v/\RawS W base S/\∀s∈S,(Lit.int .i64 s.a).wf=true/\(Lit.int .i64 s.m).wf=true/\(Lit.int .i64 s.M).wf=true/\(Lit.int .i64 s.wi).wf=true/\(Lit.int .i64 s.li).wf=true:=by
 obtain⟨base,n,cap,e,hn,hm,hr,Kh⟩:=Z5V under68 cells80 (by decide) hv h;have key:∀i,i<n->∃s:Rs,(∃b off,base=some ⟨b,off,none⟩/\b<W.heap.size/\ShotAt W b (off+i*5) s.a s.m s.M s.wi s.li)/\((Lit.int .i64 s.a).wf=true/\(Lit.int .i64 s.m).wf=true/\(Lit.int .i64 s.M).wf=true/\(Lit.int .i64 s.wi).wf=true/\(Lit.int .i64 s.li).wf=true):=by
  intro i hi;obtain⟨b,off,h1,h2,cs,h3,h4,h5⟩:=Kh i hi;have Aj:cs.length<=Tryz.prog.cellsOf 80:=by rw[cells80];omega
  obtain⟨x0,e0,w0⟩:=Z0z (n:=3) (o:=0) (u:=3) Aj h5 (by kernel_rfl) under3;obtain⟨x1,e1,w1⟩:=Z0z (n:=3) (o:=1) (u:=3) Aj h5 (by kernel_rfl) under3;obtain⟨x2,e2,w2⟩:=Z0z (n:=3) (o:=2) (u:=3) Aj h5 (by kernel_rfl) under3;obtain⟨x3,e3,w3⟩:=Z0z (n:=3) (o:=3) (u:=3) Aj h5 (by kernel_rfl) under3;obtain⟨x4,e4,w4⟩:=Z0z (n:=3) (o:=4) (u:=3) Aj h5 (by kernel_rfl) under3;exact⟨⟨x0,x1,x2,x3,x4⟩,⟨b,off,h1,h2,⟨(h4 0 (by omega)).trans e0,(h4 1 (by omega)).trans e1,(h4 2 (by omega)).trans e2,(h4 3 (by omega)).trans e3,(h4 4 (by omega)).trans e4⟩⟩,w0,w1,w2,w3,w4⟩
 obtain⟨L,Cf,U1⟩:=Zaa n key;exact⟨base,n,cap,L,e,Cf,hn,hm,hr,fun i x hx=>(U1 i x hx).1,fun s hs=>by obtain⟨i,hi⟩:=List.mem_iff_getElem?.1 hs;exact(U1 i s hi).2⟩
theorem open_card{v:Value}{d:DataW H}{p:List MemPlace}(hv:Value.okWide Tryz.prog W .any b0 70 v)(h:DataW.Trod enc Tryz.prog W 0 (fun _=>true) true 70 v d p):
 ∃(r0 r1 r2 r3:Int)(base:Option Addr)(n cap:Nat)(S:List Rs),v= .agg #[.int .i64 r0,.int .i64 r1,.int .i64 r2,.int .i64 r3,.slice base n cap]/\S.length=n/\n<=cap/\cap<=maxLen/\VRel id (Nk.Live (Zx W)) v v/\RawS W base S/\
  ((Lit.int .i64 r0).wf=true/\(Lit.int .i64 r1).wf=true/\(Lit.int .i64 r2).wf=true/\(Lit.int .i64 r3).wf=true)/\∀s∈S,(Lit.int .i64 s.a).wf=true/\(Lit.int .i64 s.m).wf=true/\(Lit.int .i64 s.M).wf=true/\(Lit.int .i64 s.wi).wf=true/\(Lit.int .i64 s.li).wf=true:=by
 obtain⟨cs,rfl,hs,hx⟩:=aggOk hv (by kernel_rfl);obtain⟨fuel,hf⟩:=h;have hf:DataW.trod enc Tryz.prog W 0 (fun _=>true) true fuel 70 cs.toList=some (d,p):=hf;rw[cells70] at hs;have Aj:cs.toList.length<=Tryz.prog.cellsOf 70:=by rw[cells70];simp[hs]
 obtain⟨x0,e0,w0⟩:=Z0z (n:=2) (o:=0) (u:=3) Aj ⟨_,_,hf⟩ (by kernel_rfl) under3;obtain⟨x1,e1,w1⟩:=Z0z (n:=2) (o:=1) (u:=3) Aj ⟨_,_,hf⟩ (by kernel_rfl) under3;obtain⟨x2,e2,w2⟩:=Z0z (n:=2) (o:=2) (u:=3) Aj ⟨_,_,hf⟩ (by kernel_rfl) under3;obtain⟨x3,e3,w3⟩:=Z0z (n:=2) (o:=3) (u:=3) Aj ⟨_,_,hf⟩ (by kernel_rfl) under3;obtain⟨sv,m,y,e4,h4⟩:=Z7R (n:=2) (o:=4) (u:=68) Aj ⟨_,_,hf⟩ (by kernel_rfl) under68;obtain⟨base,n,cap,S,rfl,hL,hn,hm,hr,hR,hw⟩:=Zg3 (hx 4 sv (by simpa using e4)) h4;have Yx:=arr5 hs e0 e1 e2 e3 e4;subst Yx
 have hA:AR id (Nk.Live (Zx W)) #[.int .i64 x0,.int .i64 x1,.int .i64 x2,.int .i64 x3,.slice base n cap] #[.int .i64 x0,.int .i64 x1,.int .i64 x2,.int .i64 x3,.slice base n cap]:=
  ((((AR.nil.push (.int _ _)).push (.int _ _)).push (.int _ _)).push (.int _ _)).push hr
 exact⟨x0,x1,x2,x3,base,n,cap,S,rfl,hL,hn,hm,.agg hA.1 hA.2,hR,⟨w0,w1,w2,w3⟩,hw⟩
end
theorem ZfV{W:World}{base:Option Addr}{S:List Rs}(h:RawS W base S):RawS (Zx W) base S:=fun i x hi=>by
 obtain⟨b,off,h1,h2,h3⟩:=h i x hi;exact⟨b,off,h1,by rw[Z1l];exact h2,⟨Z0d rfl h3.c0 rfl,Z0d rfl h3.c1 rfl,Z0d rfl h3.c2 rfl,Z0d rfl h3.c3 rfl,Z0d rfl h3.c4 rfl⟩⟩
theorem Zg8{W:World}(t){base:Option Addr}{S:List Rs}(h:RawS W base S):RawS (retape t W) base S:=fun i x hi=>by
 obtain⟨b,off,h1,h2,h3⟩:=h i x hi;exact⟨b,off,h1,h2,⟨h3.c0,h3.c1,h3.c2,h3.c3,h3.c4⟩⟩
section
variable {H:Type} {enc:TypeId×Value->H} {W:World} {b0:Nat}
theorem ZiK{P:Program}{w:World}{base:Nat}{spare:Nat->Bool}{held:Bool}{t t' t'' t3 t4:TypeId}{args:Array Value}{ds:List (DataW H)}{ps:List MemPlace}(h:DataW.TrodAll enc P w base spare held [t,t',t'',t3,t4] args.toList ds ps):
 ∃v v' v'' v3 v4 d d' d'' d3 d4 p p' p'' p3 p4,args= #[v,v',v'',v3,v4]/\ds=[d,d',d'',d3,d4]/\ps=p++p'++p''++p3++p4/\DataW.Trod enc P w base spare held t v d p/\DataW.Trod enc P w base spare held t' v' d' p'/\DataW.Trod enc P w base spare held t'' v'' d'' p''/\DataW.Trod enc P w base spare held t3 v3 d3 p3/\DataW.Trod enc P w base spare held t4 v4 d4 p4:=by
 obtain⟨v,vs,d,ds',p,q,I5,rfl,rfl,hd,Ti⟩:=trodAll_cons h;obtain⟨v',vs',d',ds'',p',q',rfl,rfl,rfl,hd',Oh⟩:=trodAll_cons Ti;obtain⟨v'',vs'',d'',ds''',p'',q'',rfl,rfl,rfl,hd'',Lf⟩:=trodAll_cons Oh;obtain⟨v3,vs3,d3,ds3,p3,q3,rfl,rfl,rfl,hd3,Oi⟩:=trodAll_cons Lf;obtain⟨v4,vs4,d4,ds4,p4,q4,rfl,rfl,rfl,hd4,Oj⟩:=trodAll_cons Oi;obtain⟨rfl,rfl,rfl⟩:=trodAll_nil Oj;exact⟨v,v',v'',v3,v4,d,d',d'',d3,d4,p,p',p'',p3,p4,by cases args;simp_all,rfl,by simp,hd,hd',hd'',hd3,hd4⟩
end
end Go.Proofs.Tryq
namespace Go.Proofs.YtedkbdkbbnemlaaGreatDoor
set_option maxRecDepth 100000
open Go Go.Nk Go.RowKit Go.ChangeShapes Go.WideShapes Go.ChangeAt Go.Conc
open Go.Proofs.Tryq
attribute [local instance] theBan
theorem Zkq(os:Os)(started:os.Started)(H:Type)(enc:TypeId×Value->H):
 ReturnsInLeavingWide {} Tryz.checked os 19 .any (fun w args=>(Rows.arrowMarksSpec.pre enc Tryz.prog Tryz.f19 [] false w args/\laidMetH Tryz.prog laidL w)/\sizedMet enc Tryz.prog Tryz.f19 (OpenSpec.ofChange Rows.arrowMarksSpec) false w args)
  (Rows.arrowMarksSpec.post enc Tryz.prog Tryz.f19 false true false false):=by
 refine Z4e (n:=5) (ts:=[70,3,3,3,3]) started (by simp[keptList]) Tryz.func19 same19 (by kernel_rfl) Tryz.results19 (by kernel_rfl) (by rw[Tryz.params19]) rfl rfl (by kernel_rfl) (fun ds hd=>by
  match ds,hd with
  |[_,_,_,_,_],_=>rfl) (by kernel_rfl)
  (ChangeSpec.witness_shaped (enc:=enc) (C:=Tryz.checked) (os:=os) (X:=fun w _=>laidMetH Tryz.prog laidL w) false (World.doorLaid Tryz.prog 400 os) #[.agg #[.int .i64 0,.int .i64 0,.int .i64 0,.int .i64 0,.slice none 0 0],.int .i64 0,.int .i64 0,.int .i64 0,.int .i64 0] 8 rfl (Z3F os _) (by kernel_rfl) (by kernel_rfl) (by kernel_rfl) (Z7C os _)) ?_
 intro W base args ds p Ea hA hM C0 hd;rw[Tryz.params19] at Ea;obtain⟨v0,v1,v2,v3,v4,dx0,dx1,dx2,dx3,dx4,px0,px1,px2,px3,px4,rfl,rfl,rfl,h0,h1,h2,h3,h4⟩:=ZiK hA;obtain⟨a0,b0,c0,d0,ab0,n0,k0,S0,rfl,hL0,Tn,B8,Bz,Hc,Me,Bf⟩:=open_card (Ea 0 70 v0 rfl rfl) h0;obtain⟨u1,rfl,Jn,Ck⟩:=ZhO (Ea 1 3 v1 rfl rfl) h1;obtain⟨u2,rfl,Em,Cp⟩:=ZhO (Ea 2 3 v2 rfl rfl) h2;obtain⟨u3,rfl,E4,Ej⟩:=ZhO (Ea 3 3 v3 rfl rfl) h3;obtain⟨u4,rfl,Ko,hr4⟩:=ZhO (Ea 4 3 v4 rfl rfl) h4;refine⟨((((AR.nil.push Bz).push Ck).push Cp).push Ej).push hr4,fun t=> ?_⟩;exact Zks a0 b0 c0 d0 u1 u2 u3 u4 ab0 n0 k0 S0 (retape t (Zx W)) hL0 hM (Za7 t C0) hd (Zg8 t (ZfV Hc))
theorem arrowMarks_row:Rows.ArrowMarksSaid:=
 OpenClaim.holds_of_wide_leaving 19 Tryz.f19 rfl rfl rfl rfl rfl rfl rfl ⟨rfl,rfl,rfl,rfl,rfl⟩ rfl rfl rfl rfl rfl (by kernel_rfl) Tryz.func19 JarrowMarks.facts
  (of_decide_eq_true (by kernel_rfl)) (by unfold Func.isWrapper;first|(rw[if_pos (by decide+kernel)];kernel_rfl)|(rw[if_neg (by decide+kernel)];exact⟨rfl,rfl⟩))
  (fun os started H enc _=>Zkq os started H enc)
theorem arrowMarks_card:Rows.ArrowMarksCardSaid:=
 Zac .later [.data,.data,.data,.funcs] true (true,"0e1059176c690520e63ed0d32383d6ff1680ebd08dcb3a61820afc84c46f7b58") false
  arrowMarks_row (by kernel_rfl) arrowMarks_row_tie rfl ⟨rfl,rfl⟩ (by kernel_rfl) rfl
  (fun f fn hf hfn=>by
    obtain rfl:f=19:=Option.some.inj ((show Tryz.prog.funcNamed "nock/nocklaw01.ArrowMarks" =some 19 by kernel_rfl).symm.trans hf) |>.symm
    obtain rfl:fn=Tryz.f19:=(Option.some.inj (Tryz.func19.symm.trans hfn)).symm
    exact⟨by kernel_rfl,fun j t ht=>by
     rw[Tryz.params19] at ht;have hm:t∈[70,3,3,3,3]:=(by simpa using Array.mem_of_getElem? ht);have An:([70,3,3,3,3].all fun u=> !Tryz.prog.wantsStandIn u)=true:=(by kernel_rfl);exact(show Tryz.prog.wantsStandIn t=false by simpa using List.all_eq_true.1 An t hm)⟩)
  (by kernel_rfl)
end Go.Proofs.YtedkbdkbbnemlaaGreatDoor
