/- nocklaw01.ArrowMatches: for every stock and every list the call returns true, on every schedule and without a data race; its arguments read afterwards as they read before; nothing that was in memory is changed; at the return no other goroutine does more than leave. The card ties the four listed package variables to the program's text. Conditions: none beyond the card's own (the listed variables hold what the program's text lays). The texts of this claim were shortened by program (no remarks, short names) to fit the bounds on a claim's size; their long form lies in the repository's folder wip. -/
import Derived.Test.YtedkbdkbbnemlaaGreatDoorNk30
import Derived.Test.YtedkbdkbbnemlaaGreatDoorNk31
set_option linter.all false
namespace Go.Proofs.YtedkbdkbbnemlaaGreatDoor
set_option maxRecDepth 100000
open Go Go.Nk Go.RowKit Go.ChangeShapes Go.WideShapes Go.ChangeAt Go.Conc
open Go.Proofs.Tryq (theBan Z4e Z7C Z3F Z4c Z4d laidL Z1C Zac Z5T Z5U Za7 Za8 Za9)
attribute [local instance] theBan
theorem Z2f(os:Os)(started:os.Started)(H:Type)(enc:TypeId×Value→H):
 ReturnsInLeavingWide {} Tryz.checked os 3 .any (fun w args=>(Rows.arrowMatchesSpec.pre enc Tryz.prog Tryz.f3 [] false w args∧laidMetH Tryz.prog laidL w)∧sizedMet enc Tryz.prog Tryz.f3 (OpenSpec.ofChange Rows.arrowMatchesSpec) false w args)
  (Rows.arrowMatchesSpec.post enc Tryz.prog Tryz.f3 false true false false):=by
 refine Z4e (n:=2) (ts:=[26,27]) started (by simp[Go.Proofs.Tryq.keptList]) Tryz.func3 Go.Proofs.Tryq.same3 (by kernel_rfl) Tryz.results3 (by kernel_rfl) (by rw[Tryz.params3]) rfl rfl (by kernel_rfl) (fun ds hd=>by
  match ds,hd with
  |[_,_],_=>rfl) (by kernel_rfl)
  (ChangeSpec.witness_shaped (enc:=enc) (C:=Tryz.checked) (os:=os) (X:=fun w _=>laidMetH Tryz.prog laidL w) false (World.doorLaid Tryz.prog 400 os) #[.agg #[.int .i64 0,.int .i64 0,.int .i64 0,.int .i64 0,.slice none 0 0],.slice none 0 0] 8 rfl (Z3F os _) (by kernel_rfl) (by kernel_rfl) (by kernel_rfl) (Z7C os _)) ?_
 intro W base args ds p hval hA hM hmo hd
 rw[Tryz.params3] at hval
 obtain⟨v0,v1,d0,d1,p0,p1,rfl,rfl,rfl,h0,h1⟩:=trodAll_two hA
 obtain⟨a,b,c,m,ab,n,cap,L,rfl,hL,hn,hcap,hr0,hS,_⟩:=Z4c (hval 0 26 v0 rfl rfl) h0
 obtain⟨bl,k,cl,l,rfl,hl,hk,hcl,hr1,hI,_⟩:=Z4d (hval 1 27 v1 rfl rfl) h1
 refine⟨(AR.nil.push hr0).push hr1,fun t=> ?_⟩
 exact(Z1C a b c m ab n cap L bl k cl l (retape t (Zx W)) hL hl hk (Nat.le_trans hk hcl) hM (Za7 t hmo) hd (Za8 t (Z5T hS)) (Za9 t (Z5U hI))).mono fun e w' h=>h.1
theorem arrowMatches_row:Rows.ArrowMatchesSaid:=
 OpenClaim.holds_of_wide_leaving 3 Tryz.f3 rfl rfl rfl rfl rfl rfl rfl ⟨rfl,rfl,rfl,rfl,rfl⟩ rfl rfl rfl rfl rfl (by kernel_rfl) Tryz.func3 JarrowMatches.facts
  (of_decide_eq_true (by kernel_rfl)) (by unfold Func.isWrapper;first|(rw[if_pos (by decide+kernel)];kernel_rfl)|(rw[if_neg (by decide+kernel)];exact⟨rfl,rfl⟩))
  (fun os started H enc _=>Z2f os started H enc)
theorem arrowMatches_card:Rows.ArrowMatchesCardSaid:=
 Zac .later [.data,.data,.data,.funcs] true (true,"0e1059176c690520e63ed0d32383d6ff1680ebd08dcb3a61820afc84c46f7b58") false
  arrowMatches_row (by kernel_rfl) arrowMatches_row_tie rfl ⟨rfl,rfl⟩ (by kernel_rfl) rfl
  (fun f fn hf hfn=>by
    obtain rfl:f=3:=Option.some.inj ((show Tryz.prog.funcNamed "nock/nocklaw01.ArrowMatches" =some 3 by kernel_rfl).symm.trans hf) |>.symm
    obtain rfl:fn=Tryz.f3:=(Option.some.inj (Tryz.func3.symm.trans hfn)).symm
    exact⟨by kernel_rfl,fun j t ht=>by
     rw[Tryz.params3] at ht
     have hm:t∈[26,27]:=by simpa using Array.mem_of_getElem? ht
     have hall:([26,27].all fun u=> !Tryz.prog.wantsStandIn u)=true:=by kernel_rfl
     exact(show Tryz.prog.wantsStandIn t=false by simpa using List.all_eq_true.1 hall t hm)⟩)
  (by kernel_rfl)
end Go.Proofs.YtedkbdkbbnemlaaGreatDoor
