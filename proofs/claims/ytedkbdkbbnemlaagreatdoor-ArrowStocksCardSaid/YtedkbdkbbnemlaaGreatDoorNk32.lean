/- nocklaw01.ArrowStocks: for every stock, any shaft more, any shaft, whatever is measured, any span the call returns true, on every schedule and without a data race; its arguments read afterwards as they read before; nothing that was in memory is changed; at the return no other goroutine does more than leave. The card ties the four listed package variables to the program's text. Conditions: none beyond the card's own (the listed variables hold what the program's text lays). The texts of this claim were shortened by program (no remarks, short names) to fit the bounds on a claim's size; their long form lies in the repository's folder wip. -/
import Derived.Test.YtedkbdkbbnemlaaGreatDoorNkA
import Derived.Test.YtedkbdkbbnemlaaGreatDoorNk31
import Derived.Carry
set_option linter.all false
namespace Go.Proofs.YtedkbdkbbnemlaaGreatDoor
set_option maxRecDepth 100000
open Go Go.Nk Go.RowKit Go.ChangeShapes Go.WideShapes Go.ChangeAt Go.Conc
open Go.Proofs.Tryq
attribute [local instance] theBan
theorem ZmV(os:Os)(started:os.Started)(H:Type)(enc:TypeId×Value->H):
 ReturnsInLeavingWide {} Tryz.checked os 18 .any (fun w args=>(Rows.arrowStocksSpec.pre enc Tryz.prog Tryz.f18 [] false w args/\laidMetH Tryz.prog laidL w)/\sizedMet enc Tryz.prog Tryz.f18 (OpenSpec.ofChange Rows.arrowStocksSpec) false w args)
  (Rows.arrowStocksSpec.post enc Tryz.prog Tryz.f18 false true false false):=by
 refine Z4e (n:=5) (ts:=[26,51,5,5,48]) started (by simp[keptList]) Tryz.func18 same18 (by kernel_rfl) Tryz.results18 (by kernel_rfl) (by rw[Tryz.params18]) rfl rfl (by kernel_rfl) (fun ds hd=>by
  match ds,hd with
  |[_,_,_,_,_],_=>rfl) (by kernel_rfl)
  (ChangeSpec.witness_shaped (enc:=enc) (C:=Tryz.checked) (os:=os) (X:=fun w _=>laidMetH Tryz.prog laidL w) false (World.doorLaid Tryz.prog 400 os) #[.agg #[.int .i64 0,.int .i64 0,.int .i64 0,.int .i64 0,.slice none 0 0],.agg #[.string .empty,.int .i64 0,.int .i64 0,.int .i64 0,.int .i64 0,.int .i64 0,.int .i64 0],.int .u8 0,.int .u8 0,.agg #[.int .i64 0,.int .i64 0]] 8 rfl (Z3F os _) (by kernel_rfl) (by kernel_rfl) (by kernel_rfl) (Z7C os _)) ?_
 intro W base args ds p Ea hA hM D6 hd;rw[Tryz.params18] at Ea;obtain⟨v0,v1,v2,v3,v4,dx0,dx1,dx2,dx3,dx4,px0,px1,px2,px3,px4,rfl,rfl,rfl,h0,h1,h2,h3,h4⟩:=ZiK hA;obtain⟨a0,b0,c0,d0,ab0,n0,k0,S0,rfl,hL0,Gu,Cz,Ek,J8,Na⟩:=Z4c (Ea 0 26 v0 rfl rfl) h0;obtain⟨x1,rfl,Dh,E9⟩:=Zn9 (Ea 1 51 v1 rfl rfl) h1;obtain⟨u2,rfl,E4,Dz⟩:=ZfW (Ea 2 5 v2 rfl rfl) h2;obtain⟨u3,rfl,Cs,Ga⟩:=ZfW (Ea 3 5 v3 rfl rfl) h3;obtain⟨a4,b4,rfl,Ji⟩:=Zl8 (Ea 4 48 v4 rfl rfl) h4;refine⟨((((AR.nil.push Ek).push E9).push Dz).push Ga).push Ji,fun t=> ?_⟩;exact ZmW a0 b0 c0 d0 u2 u3 a4 b4 x1 ab0 n0 k0 S0 (retape t (Zx W)) hL0 Gu (Zgg E4) (Zgg Cs) hM (Za7 t D6) hd (Za8 t (Z5T J8))
theorem arrowStocks_row:Rows.ArrowStocksSaid:=
 OpenClaim.holds_of_wide_leaving 18 Tryz.f18 rfl rfl rfl rfl rfl rfl rfl ⟨rfl,rfl,rfl,rfl,rfl⟩ rfl rfl rfl rfl rfl (by kernel_rfl) Tryz.func18 JarrowStocks.facts
  (of_decide_eq_true (by kernel_rfl)) (by unfold Func.isWrapper;first|(rw[if_pos (by decide+kernel)];kernel_rfl)|(rw[if_neg (by decide+kernel)];exact⟨rfl,rfl⟩))
  (fun os started H enc _=>ZmV os started H enc)
theorem arrowStocks_card:Rows.ArrowStocksCardSaid:=
 Zac .later [.data,.data,.data,.funcs] true (true,"0e1059176c690520e63ed0d32383d6ff1680ebd08dcb3a61820afc84c46f7b58") false
  arrowStocks_row (by kernel_rfl) arrowStocks_row_tie rfl ⟨rfl,rfl⟩ (by kernel_rfl) rfl
  (fun f fn hf hfn=>by
    obtain rfl:f=18:=YT ((show Tryz.prog.funcNamed "nock/nocklaw01.ArrowStocks" =some 18 by kernel_rfl).symm.trans hf) |>.symm
    obtain rfl:fn=Tryz.f18:=(YT (Tryz.func18.symm.trans hfn)).symm
    exact⟨by kernel_rfl,fun j t ht=>by
     rw[Tryz.params18] at ht;have hm:t∈[26,51,5,5,48]:=(by simpa using Array.mem_of_getElem? ht);have Ah:([26,51,5,5,48].all fun u=> !Tryz.prog.wantsStandIn u)=true:=(by kernel_rfl);exact(show Tryz.prog.wantsStandIn t=false by simpa using YL.1 Ah t hm)⟩)
  (by kernel_rfl)
end Go.Proofs.YtedkbdkbbnemlaaGreatDoor
