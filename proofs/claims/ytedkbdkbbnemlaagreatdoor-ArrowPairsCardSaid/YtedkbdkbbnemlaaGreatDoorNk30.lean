/- nocklaw01.ArrowPairs: for every stock and every choice of shafts the call returns true, on every schedule and without a data race; its arguments read afterwards as they read before; nothing that was in memory is changed; at the return no other goroutine does more than leave. The card ties the four listed package variables to the program's text. Conditions: none beyond the card's own (the listed variables hold what the program's text lays). The texts of this claim were shortened by program (no remarks, short names) to fit the bounds on a claim's size; their long form lies in the repository's folder wip. -/
import Derived.Test.YtedkbdkbbnemlaaGreatDoorNk29
import Derived.JoinedOf
import Derived.KernelRfl
import Derived.Test.YtedkbdkbbnemlaaGreatDoorRows
set_option linter.all false
namespace Go.Proofs.Tryq
set_option maxRecDepth 100000
set_option maxHeartbeats 8000000
open Go Go.Nk Go.RowKit
theorem Zex(a b c m v:Int)(base:Option Addr)(n cap:Nat)(L:List Sf)(w:World)(hlen:L.length=n)(hv:0≤v∧v<65536)(hM:Meas w)(hmo:Most w)(hd:Deb w)(hS:RawA w base L):
 Calls prog 5 #[.agg #[.int .i64 a,.int .i64 b,.int .i64 c,.int .i64 m,.slice base n cap],.int .u16 v] w fun e w'=>e= .returned (.bool true):=by
 have hft:=fun W hW=>Zfd a b c m base n cap L W hlen (hS.ext hW)
 have hsh:∀W,Ext w W→Calls prog 22 #[] W fun e w'=>e= .returned (.bool true)∧Ext W w':=fun W (hW:Ext w W)=>Zce W (hM.ext hW) (hmo.ext hW) (hd.ext hW)
 cases hf:Zfc a b c m L with
 |false=>
  simp only[hf] at hft
  clear hf
  go_enter func5,ntmps5
  go_wp2_with (first
   |(go_at_call 30;refine(hft _ ((Ext.rfl' w).alloc _)).mono ?_;rintro e w2 ⟨rfl,hE2⟩
     have hE3:=((Ext.rfl' w).alloc _).trans hE2)
   |(go_at_call 22;refine(hsh _ hE3).mono ?_;rintro e w3 ⟨rfl,hE4⟩))
  go_ret
  exact rfl
 |true=>
  simp only[hf] at hft
  have hg:Z1B L=false∧Zp a b c m L=0:=by simpa[Zfc] using hf
  have hn:n≤20:=by
   rw[←hlen]
   have:=hg.1
   simp only[Z1B,Bool.or_eq_false_iff,decide_eq_false_iff_not] at this
   omega
  have hop:∀l,Zq n l=0→Zo a b c m L l=0:=fun l h=>by rw[Zo,hlen,h,hg.2];rfl
  refine ZeU a b c m v base n cap (ZeL v n) (ZeL v n).length (Z1M a b c m L) w rfl (Nat.le_trans (ZeN v n) hn) (Zew v n) hft (fun W _=>ZeT a b c m v base n cap W hn hv) (fun l k hz hk1 hk bl cl W hcl hW hI=> ?_) hsh ?_ ?_ ?_
  ·have:=Z5Y a b c m base n cap L bl k cl l W hlen hn hk1 hcl hk (hM.ext hW) (hS.ext hW) hI
   rw[hop l hz] at this
   exact this
  ·exact Zf0 hg.2 (by rw[hlen];exact Zew v n) rfl
  ·exact Zf1 hg.2 (by rw[hlen];exact Zew v n) rfl
  ·intro i x hx;exact ZeZ hg.2 (by rw[hlen];exact Zew v n) hx
end Go.Proofs.Tryq
section
set_option maxRecDepth 100000
namespace Go.Proofs.YtedkbdkbbnemlaaGreatDoor
open Go
namespace JarrowPairs
theorem k0:Rows.arrowPairsRow.wf (OpenSpec.ofChange Rows.arrowPairsSpec)=true:=by kernel_rfl
theorem k1:laidOutB Tryz.prog=true:=by kernel_rfl
theorem k2:mapsRowed Tryz.prog=true:=by kernel_rfl
theorem k3:Tryz.f5.params.all (Tryz.prog.readableRec ·)=true:=by kernel_rfl
theorem k4:namedTie Tryz.prog Rows.arrowPairsRow.named Rows.arrowPairsSpec.vars=true:=by kernel_rfl
theorem k5:(Rows.arrowPairsRow.stops==[])=true:=by kernel_rfl
theorem k6:(Tryz.prog.stops==[])=true:=by kernel_rfl
theorem k7:(Rows.arrowPairsRow.knobs==[])=true:=by kernel_rfl
theorem k8:(Tryz.prog.stopKnobs==[])=true:=by kernel_rfl
theorem k9:(Rows.arrowPairsRow.inPlace==Tryz.prog.inPlace 5)=true:=by kernel_rfl
theorem k10:(Rows.arrowPairsRow.unfollowed==Tryz.prog.unfollowed 5)=true:=by kernel_rfl
theorem k11:(Rows.arrowPairsRow.recurses==Tryz.prog.recurses 5)=true:=by kernel_rfl
theorem k12:(Rows.arrowPairsRow.named==Tryz.prog.varsNamed 5)=true:=by kernel_rfl
theorem k13:(Rows.arrowPairsRow.maps==(Tryz.f5.params.toList++Rows.arrowPairsSpec.plain.varTypes Tryz.prog).any (Tryz.prog.mapsRec ·))=true:=by kernel_rfl
theorem k14:(Rows.arrowPairsRow.ifaces==(Tryz.f5.params.toList++Rows.arrowPairsSpec.plain.varTypes Tryz.prog).any (Tryz.prog.ifacesRec ·))=true:=by kernel_rfl
theorem k15:(Rows.arrowPairsRow.mapsOut==Tryz.prog.mapsAmong Tryz.f5.resultTypes.toList)=true:=by kernel_rfl
theorem k16:(Rows.arrowPairsRow.loops==(Tryz.f5.params.toList++Rows.arrowPairsSpec.plain.varTypes Tryz.prog).any (Tryz.prog.loopsFrom ·))=true:=by kernel_rfl
theorem k17:(Rows.arrowPairsRow.wideKeys==(Tryz.f5.params.toList++Rows.arrowPairsSpec.plain.varTypes Tryz.prog++Tryz.f5.resultTypes.toList).any (Tryz.prog.wideKeysFrom ·))=true:=by kernel_rfl
theorem k18:Rows.arrowPairsSpec.vars.all (Tryz.prog.varReadable ·)=true:=by kernel_rfl
theorem k19:Tryz.f5.resultTypes.all (fun t=>Tryz.prog.readableRec t&&decide (t<Tryz.prog.types.size))=true:=by kernel_rfl
theorem k20:(Rows.arrowPairsRow.ifacesOut==Tryz.f5.resultTypes.toList.any (Tryz.prog.ifacesRec ·))=true:=by kernel_rfl
theorem k21:(Rows.arrowPairsRow.loopsOut==Tryz.f5.resultTypes.toList.any (Tryz.prog.loopsFrom ·))=true:=by kernel_rfl
theorem k22:(Rows.arrowPairsRow.plainKeys==Tryz.prog.plainKeys)=true:=by kernel_rfl
theorem k23:Rows.arrowPairsRow.shortTexts.isNone=true:=by kernel_rfl
theorem k24:Tryz.prog.stopsHeard=true:=by kernel_rfl
theorem k25:Tryz.prog.mayEnter=true:=by kernel_rfl
theorem k26:(Rows.arrowPairsRow.lifted==Tryz.prog.liftsFinal)=true:=by kernel_rfl
theorem k27:(Tryz.prog.make==some Rows.arrowPairsRow.make)=true:=by kernel_rfl
theorem k28:(Rows.arrowPairsRow.kinds==(if Rows.arrowPairsRow.domain.isEmpty then[] else Tryz.f5.params.toList.map fun t=>match Tryz.prog.underlying t with|some (.int k)=>some k|_=>none))=true:=by kernel_rfl
theorem k29:(Rows.arrowPairsRow.pinned==Rows.arrowPairsRow.pinnedBy)=true:=by kernel_rfl
theorem k30:(Rows.arrowPairsRow.veiled==(Tryz.f5.params.toList++Rows.arrowPairsSpec.plain.varTypes Tryz.prog++Tryz.f5.resultTypes.toList).any (Tryz.prog.veiledRec ·))=true:=by kernel_rfl
theorem k31:Rows.arrowPairsRow.veiledFits Tryz.prog Tryz.f5.params.toList (Tryz.f5.params.toList++Rows.arrowPairsSpec.plain.varTypes Tryz.prog++Tryz.f5.resultTypes.toList)=true:=by kernel_rfl
theorem ZI{a b:Bool}(ha:a=true)(hb:b=true):(a&&b)=true:=by rw[ha,hb];rfl
theorem facts:joinedFacts Tryz.prog 5 Tryz.f5 Rows.arrowPairsSpec Rows.arrowPairsRow=true:=(ZI (ZI (ZI (ZI (ZI (ZI (ZI (ZI (ZI (ZI (ZI (ZI (ZI (ZI (ZI (ZI (ZI (ZI (ZI (ZI (ZI (ZI (ZI (ZI (ZI (ZI (ZI (ZI (ZI (ZI (ZI k0 k1) k2) k3) k4) k5) k6) k7) k8) k9) k10) k11) k12) k13) k14) k15) k16) k17) k18) k19) k20) k21) k22) k23) k24) k25) k26) k27) k28) k29) k30) k31)
end JarrowPairs
end Go.Proofs.YtedkbdkbbnemlaaGreatDoor
end
namespace Go.Proofs.Tryq
set_option maxRecDepth 100000
open Go Go.Nk Go.RowKit Go.ChangeShapes Go.WideShapes Go.ChangeAt Go.Conc Go.Deep
attribute [local instance] theBan
section
variable {H:Type} {enc:TypeId×Value→H} {W:World} {b0:Nat}
theorem Zf4{t:TypeId}{k:IntKind}(hu:Tryz.prog.underlying t=some (.int k))(hs:isS Tryz.prog t=false)(ha:isA Tryz.prog t=false)(hl:(Z3e Tryz.prog 0 t 0).any (fun y=>y.1==0&&y.2==t)=true)(hc1:Tryz.prog.cellsOf t=1){v:Value}{d:DataW H}{p:List MemPlace}(hv:Value.okWide Tryz.prog W .any b0 t v)(h:DataW.Trod enc Tryz.prog W 0 (fun _=>true) true t v d p):
 ∃n:Int,v= .int k n∧(Lit.int k n).wf=true∧VRel id (Nk.Live (Zx W)) v v:=by
 have hc:=Zei hv hs ha
 obtain⟨fuel,hf⟩:=h
 have e:v.cells.toList=[v]:=by
  cases v<;>first|rfl|skip
  rename_i cs
  simp[Cell.okWide,Cell.ok,hu] at hc
 rw[e] at hf
 have hcs:[v].length≤Tryz.prog.cellsOf t:=by rw[hc1];exact Nat.le_refl _
 obtain⟨x1,e1,hw⟩:=Z0z (n:=0) (o:=0) (u:=t) hcs ⟨_,_,hf⟩ hl hu
 obtain rfl:v= .int k x1:=by simpa using e1
 exact⟨x1,rfl,hw,.int _ _⟩
theorem Zf7{n:Int}(h:(Lit.int .u16 n).wf=true):0≤n∧n<65536:=by
 have h1:IntKind.u16.min=0:=rfl
 have h2:IntKind.u16.max=65535:=rfl
 simp only[Lit.wf,Bool.and_eq_true,decide_eq_true_eq] at h
 omega
theorem under40:Tryz.prog.underlying 40=some (.int .u16):=by kernel_rfl
theorem ZeQ{v:Value}{d:DataW H}{p:List MemPlace}(hv:Value.okWide Tryz.prog W .any b0 40 v)(h:DataW.Trod enc Tryz.prog W 0 (fun _=>true) true 40 v d p):∃n:Int,v= .int .u16 n∧(Lit.int .u16 n).wf=true∧VRel id (Nk.Live (Zx W)) v v:=
 Zf4 under40 (by kernel_rfl) (by kernel_rfl) (by kernel_rfl) (by kernel_rfl) hv h
end
end Go.Proofs.Tryq
namespace Go.Proofs.YtedkbdkbbnemlaaGreatDoor
set_option maxRecDepth 100000
open Go Go.Nk Go.RowKit Go.ChangeShapes Go.WideShapes Go.ChangeAt Go.Conc
open Go.Proofs.Tryq (theBan Z4e Z7C Z3F Z4c ZeQ Zf7 laidL Zex Zac Z5T Za7 Za8)
attribute [local instance] theBan
theorem ZeA(os:Os)(started:os.Started)(H:Type)(enc:TypeId×Value→H):
 ReturnsInLeavingWide {} Tryz.checked os 5 .any (fun w args=>(Rows.arrowPairsSpec.pre enc Tryz.prog Tryz.f5 [] false w args∧laidMetH Tryz.prog laidL w)∧sizedMet enc Tryz.prog Tryz.f5 (OpenSpec.ofChange Rows.arrowPairsSpec) false w args)
  (Rows.arrowPairsSpec.post enc Tryz.prog Tryz.f5 false true false false):=by
 refine Z4e (n:=2) (ts:=[26,40]) started (by simp[Go.Proofs.Tryq.keptList]) Tryz.func5 Go.Proofs.Tryq.same5 (by kernel_rfl) Tryz.results5 (by kernel_rfl) (by rw[Tryz.params5]) rfl rfl (by kernel_rfl) (fun ds hd=>by
  match ds,hd with
  |[_,_],_=>rfl) (by kernel_rfl)
  (ChangeSpec.witness_shaped (enc:=enc) (C:=Tryz.checked) (os:=os) (X:=fun w _=>laidMetH Tryz.prog laidL w) false (World.doorLaid Tryz.prog 400 os) #[.agg #[.int .i64 0,.int .i64 0,.int .i64 0,.int .i64 0,.slice none 0 0],.int .u16 0] 8 rfl (Z3F os _) (by kernel_rfl) (by kernel_rfl) (by kernel_rfl) (Z7C os _)) ?_
 intro W base args ds p hval hA hM hmo hd
 rw[Tryz.params5] at hval
 obtain⟨v0,v1,d0,d1,p0,p1,rfl,rfl,rfl,h0,h1⟩:=trodAll_two hA
 obtain⟨a,b,c,m,ab,n,cap,L,rfl,hL,hn,hcap,hr0,hS,_⟩:=Z4c (hval 0 26 v0 rfl rfl) h0
 obtain⟨v,rfl,hw,hr1⟩:=ZeQ (hval 1 40 v1 rfl rfl) h1
 refine⟨(AR.nil.push hr0).push hr1,fun t=> ?_⟩
 exact Zex a b c m v ab n cap L (retape t (Zx W)) hL (Zf7 hw) hM (Za7 t hmo) hd (Za8 t (Z5T hS))
theorem arrowPairs_row:Rows.ArrowPairsSaid:=
 OpenClaim.holds_of_wide_leaving 5 Tryz.f5 rfl rfl rfl rfl rfl rfl rfl ⟨rfl,rfl,rfl,rfl,rfl⟩ rfl rfl rfl rfl rfl (by kernel_rfl) Tryz.func5 JarrowPairs.facts
  (of_decide_eq_true (by kernel_rfl)) (by unfold Func.isWrapper;first|(rw[if_pos (by decide+kernel)];kernel_rfl)|(rw[if_neg (by decide+kernel)];exact⟨rfl,rfl⟩))
  (fun os started H enc _=>ZeA os started H enc)
theorem arrowPairs_card:Rows.ArrowPairsCardSaid:=
 Zac .later [.data,.data,.data,.funcs] true (true,"0e1059176c690520e63ed0d32383d6ff1680ebd08dcb3a61820afc84c46f7b58") false
  arrowPairs_row (by kernel_rfl) arrowPairs_row_tie rfl ⟨rfl,rfl⟩ (by kernel_rfl) rfl
  (fun f fn hf hfn=>by
    obtain rfl:f=5:=Option.some.inj ((show Tryz.prog.funcNamed "nock/nocklaw01.ArrowPairs" =some 5 by kernel_rfl).symm.trans hf) |>.symm
    obtain rfl:fn=Tryz.f5:=(Option.some.inj (Tryz.func5.symm.trans hfn)).symm
    exact⟨by kernel_rfl,fun j t ht=>by
     rw[Tryz.params5] at ht
     have hm:t∈[26,40]:=by simpa using Array.mem_of_getElem? ht
     have hall:([26,40].all fun u=> !Tryz.prog.wantsStandIn u)=true:=by kernel_rfl
     exact(show Tryz.prog.wantsStandIn t=false by simpa using List.all_eq_true.1 hall t hm)⟩)
  (by kernel_rfl)
end Go.Proofs.YtedkbdkbbnemlaaGreatDoor
