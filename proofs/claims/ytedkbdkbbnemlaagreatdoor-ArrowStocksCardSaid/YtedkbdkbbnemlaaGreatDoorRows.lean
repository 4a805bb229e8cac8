/-
  NARROWER THAN 'FOR EVERY INPUT', by the rows' own cells (each row's printed sentence says how): ArrowMatches: laid · ArrowTrue: laid · ArrowPairs: laid · ArrowMost: laid · ArrowAnyOrder: laid · ArrowEach: laid · ArrowGrows: laid · ArrowBest: laid · ArrowSets: laid · ArrowShots: laid · ArrowListed: laid · ArrowReal: laid · ArrowClashes: laid · ArrowMeasures: laid · ArrowKnown: laid · ArrowStocks: laid · ArrowMarks: laid · ArrowOrder: laid.
  DERIVED. THE GIVEN ROWS OF THIS SEAT. 18 by the template 'for every input the law returns true; each argument reads behind the call as it read before'; 0 by the template 'total and deterministic' (their statements: YtedkbdkbbnemlaaGreatDoorTotals.lean).
  GIVEN WITH THE SEED: the statements are not yours to turn. If you find one false, say at which input.
  Laid BY PROGRAM, IN A SANDBOX (cutbox-rows.mjs): the forced cells as the released guide's own fill.sh prints them over the translation a74e61d076d9f948… (all of the seat's roots in one cut). By AI agents, Wed Nov 11 2026. No macro, syntax, notation, axiom, sorry.
-/
import Derived.Test.YtedkbdkbbnemlaaGreatDoorChecked
import GoSem.Claim
import GoSem.ClaimJoined
import GoSem.ClaimMapViews
import Derived.JoinedTies
import Derived.KernelRfl
namespace Go.Proofs.YtedkbdkbbnemlaaGreatDoor
/- THE CELL 'sum', in the pinned program and in every row, IS THE sha256 OF THE DUMP (.gsa) THAT YtedkbdkbbnemlaaGreatDoorProg.lean LOADS. Nothing in Lean hashes anything: it is a label: what it is worth is what the hold of that sum in a sandbox is worth. -/
noncomputable def Tryz.pinned : Pinned := { name := "ytedkbdkbbnemlaagreatdoor", sum := "a74e61d076d9f948da90a636e3fde4bba32ef7552eaea1d87ee825aed26e3cc5", checked := Tryz.checked }
namespace Rows
def none {H : Type} : Left H := { results := [], args := [] }

/- WHAT THE LISTED PACKAGE-LEVEL VARIABLES READ AS WHEN THE CALL BEGINS. Each datum BY PROGRAM (the guide's laid-datum.mjs) off the statement by which the dump's own 'gosem.cut.vars' lays the variable. In a bare row this is a premise. The card (YtedkbdkbbnemlaaGreatDoorCards.lean) ties it to the program's text. -/
def laid_math_bits_deBruijn32tab {H : Type} : DataW H := .agg [.lit (.int .u8 0), .lit (.int .u8 1), .lit (.int .u8 28), .lit (.int .u8 2), .lit (.int .u8 29), .lit (.int .u8 14), .lit (.int .u8 24), .lit (.int .u8 3), .lit (.int .u8 30), .lit (.int .u8 22), .lit (.int .u8 20), .lit (.int .u8 15), .lit (.int .u8 25), .lit (.int .u8 17), .lit (.int .u8 4), .lit (.int .u8 8), .lit (.int .u8 31), .lit (.int .u8 27), .lit (.int .u8 13), .lit (.int .u8 23), .lit (.int .u8 21), .lit (.int .u8 19), .lit (.int .u8 16), .lit (.int .u8 7), .lit (.int .u8 26), .lit (.int .u8 12), .lit (.int .u8 18), .lit (.int .u8 6), .lit (.int .u8 11), .lit (.int .u8 5), .lit (.int .u8 10), .lit (.int .u8 9)]
def laid_math_bits_deBruijn64tab {H : Type} : DataW H := .agg [.lit (.int .u8 0), .lit (.int .u8 1), .lit (.int .u8 56), .lit (.int .u8 2), .lit (.int .u8 57), .lit (.int .u8 49), .lit (.int .u8 28), .lit (.int .u8 3), .lit (.int .u8 61), .lit (.int .u8 58), .lit (.int .u8 42), .lit (.int .u8 50), .lit (.int .u8 38), .lit (.int .u8 29), .lit (.int .u8 17), .lit (.int .u8 4), .lit (.int .u8 62), .lit (.int .u8 47), .lit (.int .u8 59), .lit (.int .u8 36), .lit (.int .u8 45), .lit (.int .u8 43), .lit (.int .u8 51), .lit (.int .u8 22), .lit (.int .u8 53), .lit (.int .u8 39), .lit (.int .u8 33), .lit (.int .u8 30), .lit (.int .u8 24), .lit (.int .u8 18), .lit (.int .u8 12), .lit (.int .u8 5), .lit (.int .u8 63), .lit (.int .u8 55), .lit (.int .u8 48), .lit (.int .u8 27), .lit (.int .u8 60), .lit (.int .u8 41), .lit (.int .u8 37), .lit (.int .u8 16), .lit (.int .u8 46), .lit (.int .u8 35), .lit (.int .u8 44), .lit (.int .u8 21), .lit (.int .u8 52), .lit (.int .u8 32), .lit (.int .u8 23), .lit (.int .u8 11), .lit (.int .u8 54), .lit (.int .u8 26), .lit (.int .u8 40), .lit (.int .u8 15), .lit (.int .u8 34), .lit (.int .u8 20), .lit (.int .u8 31), .lit (.int .u8 10), .lit (.int .u8 25), .lit (.int .u8 14), .lit (.int .u8 19), .lit (.int .u8 9), .lit (.int .u8 13), .lit (.int .u8 8), .lit (.int .u8 7), .lit (.int .u8 6)]
def laid_nock_arrow_most {H : Type} : DataW H := .agg [.lit (.int .i64 (-1099511627776)), .lit (.int .i64 1099511627776)]
def laid_nock_arrow_measures {H : Type} : DataW H := .iface "func table" (.agg [.agg [.iface "func" (.lit (.string [110, 111, 99, 107, 47, 97, 114, 114, 111, 119, 46, 109, 101, 97, 115, 117, 114, 101, 115, 36, 49])), .iface "func" (.lit (.string [110, 111, 99, 107, 47, 97, 114, 114, 111, 119, 46, 109, 101, 97, 115, 117, 114, 101, 115, 36, 50]))], .agg [.iface "func" (.lit (.string [110, 111, 99, 107, 47, 97, 114, 114, 111, 119, 46, 109, 101, 97, 115, 117, 114, 101, 115, 36, 51])), .iface "func" (.lit (.string [110, 111, 99, 107, 47, 97, 114, 114, 111, 119, 46, 109, 101, 97, 115, 117, 114, 101, 115, 36, 52]))], .agg [.iface "func" (.lit (.string [110, 111, 99, 107, 47, 97, 114, 114, 111, 119, 46, 109, 101, 97, 115, 117, 114, 101, 115, 36, 53])), .iface "func" (.lit (.string [110, 111, 99, 107, 47, 97, 114, 114, 111, 119, 46, 109, 101, 97, 115, 117, 114, 101, 115, 36, 54]))]])

/-- 'nocklaw01.ArrowMatches': WHATEVER THE INPUT: true; the input reads as it did. -/
def arrowMatchesSpec : ChangeSpec := { name := "arrowMatches", fn := fun _ => fun
  | [d1, d2] => { results := [.lit (.bool true)], args := [d1, d2] }
  | _ => none }
def arrowMatchesRow : OpenClaim := { program := "ytedkbdkbbnemlaagreatdoor", sum := "a74e61d076d9f948da90a636e3fde4bba32ef7552eaea1d87ee825aed26e3cc5", func := "nock/nocklaw01.ArrowMatches", spec := "arrowMatches", inPlace := ["(*sync.WaitGroup).Add", "internal/race.ReleaseMerge", "internal/race.Disable", "internal/race.Enable", "internal/synctest.IsInBubble", "internal/synctest.Associate[sync.WaitGroup]", "sync.fatal", "sync/atomic.OrUint64", "sync/atomic.AddUint64", "internal/race.Read", "sync/atomic.LoadUint64", "sync/atomic.StoreUint64", "internal/synctest.Disassociate[sync.WaitGroup]", "sync.runtime_Semrelease", "(*sync.WaitGroup).Done", "(*sync.WaitGroup).Wait", "internal/race.Acquire", "internal/synctest.IsAssociated[sync.WaitGroup]", "sync/atomic.CompareAndSwapUint64", "internal/race.Write", "sync.runtime_SemacquireWaitGroup"], unfollowed := true, recurses := true, named := ["nock/arrow.measures", "nock/arrow.most", "math/bits.deBruijn32tab", "math/bits.deBruijn64tab"], plainKeys := false, leaving := true, apart := false, laid := [("math/bits.deBruijn32tab", laid_math_bits_deBruijn32tab), ("math/bits.deBruijn64tab", laid_math_bits_deBruijn64tab), ("nock/arrow.most", laid_nock_arrow_most), ("nock/arrow.measures", laid_nock_arrow_measures)] }
def ArrowMatchesSaid : Prop := arrowMatchesRow.holds Tryz.pinned (OpenSpec.ofChange arrowMatchesSpec)

/-- ITS FALSE NEIGHBOUR: 'it returns false'. Refute it at one input. -/
def arrowMatchesWrong : ChangeSpec := { name := "arrowMatches", fn := fun _ => fun
  | [d1, d2] => { results := [.lit (.bool false)], args := [d1, d2] }
  | _ => none }
def ArrowMatchesWrongFalsely : Prop := arrowMatchesRow.holds Tryz.pinned (OpenSpec.ofChange arrowMatchesWrong)

/-- 'nocklaw01.ArrowTrue': WHATEVER THE INPUT: true; the input reads as it did. -/
def arrowTrueSpec : ChangeSpec := { name := "arrowTrue", fn := fun _ => fun
  | [d1, d2, d3] => { results := [.lit (.bool true)], args := [d1, d2, d3] }
  | _ => none }
def arrowTrueRow : OpenClaim := { program := "ytedkbdkbbnemlaagreatdoor", sum := "a74e61d076d9f948da90a636e3fde4bba32ef7552eaea1d87ee825aed26e3cc5", func := "nock/nocklaw01.ArrowTrue", spec := "arrowTrue", inPlace := ["(*sync.WaitGroup).Add", "internal/race.ReleaseMerge", "internal/race.Disable", "internal/race.Enable", "internal/synctest.IsInBubble", "internal/synctest.Associate[sync.WaitGroup]", "sync.fatal", "sync/atomic.OrUint64", "sync/atomic.AddUint64", "internal/race.Read", "sync/atomic.LoadUint64", "sync/atomic.StoreUint64", "internal/synctest.Disassociate[sync.WaitGroup]", "sync.runtime_Semrelease", "(*sync.WaitGroup).Done", "(*sync.WaitGroup).Wait", "internal/race.Acquire", "internal/synctest.IsAssociated[sync.WaitGroup]", "sync/atomic.CompareAndSwapUint64", "internal/race.Write", "sync.runtime_SemacquireWaitGroup"], unfollowed := true, recurses := true, named := ["nock/arrow.measures", "nock/arrow.most", "math/bits.deBruijn32tab", "math/bits.deBruijn64tab"], plainKeys := false, leaving := true, apart := false, laid := [("math/bits.deBruijn32tab", laid_math_bits_deBruijn32tab), ("math/bits.deBruijn64tab", laid_math_bits_deBruijn64tab), ("nock/arrow.most", laid_nock_arrow_most), ("nock/arrow.measures", laid_nock_arrow_measures)] }
def ArrowTrueSaid : Prop := arrowTrueRow.holds Tryz.pinned (OpenSpec.ofChange arrowTrueSpec)

/-- ITS FALSE NEIGHBOUR: 'it returns false'. Refute it at one input. -/
def arrowTrueWrong : ChangeSpec := { name := "arrowTrue", fn := fun _ => fun
  | [d1, d2, d3] => { results := [.lit (.bool false)], args := [d1, d2, d3] }
  | _ => none }
def ArrowTrueWrongFalsely : Prop := arrowTrueRow.holds Tryz.pinned (OpenSpec.ofChange arrowTrueWrong)

/-- 'nocklaw01.ArrowPairs': WHATEVER THE INPUT: true; the input reads as it did. -/
def arrowPairsSpec : ChangeSpec := { name := "arrowPairs", fn := fun _ => fun
  | [d1, d2] => { results := [.lit (.bool true)], args := [d1, d2] }
  | _ => none }
def arrowPairsRow : OpenClaim := { program := "ytedkbdkbbnemlaagreatdoor", sum := "a74e61d076d9f948da90a636e3fde4bba32ef7552eaea1d87ee825aed26e3cc5", func := "nock/nocklaw01.ArrowPairs", spec := "arrowPairs", inPlace := ["(*sync.WaitGroup).Add", "internal/race.ReleaseMerge", "internal/race.Disable", "internal/race.Enable", "internal/synctest.IsInBubble", "internal/synctest.Associate[sync.WaitGroup]", "sync.fatal", "sync/atomic.OrUint64", "sync/atomic.AddUint64", "internal/race.Read", "sync/atomic.LoadUint64", "sync/atomic.StoreUint64", "internal/synctest.Disassociate[sync.WaitGroup]", "sync.runtime_Semrelease", "(*sync.WaitGroup).Done", "(*sync.WaitGroup).Wait", "internal/race.Acquire", "internal/synctest.IsAssociated[sync.WaitGroup]", "sync/atomic.CompareAndSwapUint64", "internal/race.Write", "sync.runtime_SemacquireWaitGroup"], unfollowed := true, recurses := true, named := ["nock/arrow.measures", "nock/arrow.most", "math/bits.deBruijn32tab", "math/bits.deBruijn64tab"], plainKeys := false, leaving := true, apart := false, laid := [("math/bits.deBruijn32tab", laid_math_bits_deBruijn32tab), ("math/bits.deBruijn64tab", laid_math_bits_deBruijn64tab), ("nock/arrow.most", laid_nock_arrow_most), ("nock/arrow.measures", laid_nock_arrow_measures)] }
def ArrowPairsSaid : Prop := arrowPairsRow.holds Tryz.pinned (OpenSpec.ofChange arrowPairsSpec)

/-- ITS FALSE NEIGHBOUR: 'it returns false'. Refute it at one input. -/
def arrowPairsWrong : ChangeSpec := { name := "arrowPairs", fn := fun _ => fun
  | [d1, d2] => { results := [.lit (.bool false)], args := [d1, d2] }
  | _ => none }
def ArrowPairsWrongFalsely : Prop := arrowPairsRow.holds Tryz.pinned (OpenSpec.ofChange arrowPairsWrong)

/-- 'nocklaw01.ArrowMost': WHATEVER THE INPUT: true; the input reads as it did. -/
def arrowMostSpec : ChangeSpec := { name := "arrowMost", fn := fun _ => fun
  | [d1, d2, d3] => { results := [.lit (.bool true)], args := [d1, d2, d3] }
  | _ => none }
def arrowMostRow : OpenClaim := { program := "ytedkbdkbbnemlaagreatdoor", sum := "a74e61d076d9f948da90a636e3fde4bba32ef7552eaea1d87ee825aed26e3cc5", func := "nock/nocklaw01.ArrowMost", spec := "arrowMost", inPlace := ["(*sync.WaitGroup).Add", "internal/race.ReleaseMerge", "internal/race.Disable", "internal/race.Enable", "internal/synctest.IsInBubble", "internal/synctest.Associate[sync.WaitGroup]", "sync.fatal", "sync/atomic.OrUint64", "sync/atomic.AddUint64", "internal/race.Read", "sync/atomic.LoadUint64", "sync/atomic.StoreUint64", "internal/synctest.Disassociate[sync.WaitGroup]", "sync.runtime_Semrelease", "(*sync.WaitGroup).Done", "(*sync.WaitGroup).Wait", "internal/race.Acquire", "internal/synctest.IsAssociated[sync.WaitGroup]", "sync/atomic.CompareAndSwapUint64", "internal/race.Write", "sync.runtime_SemacquireWaitGroup"], unfollowed := true, recurses := true, named := ["nock/arrow.measures", "nock/arrow.most", "math/bits.deBruijn32tab", "math/bits.deBruijn64tab"], plainKeys := false, leaving := true, apart := false, laid := [("math/bits.deBruijn32tab", laid_math_bits_deBruijn32tab), ("math/bits.deBruijn64tab", laid_math_bits_deBruijn64tab), ("nock/arrow.most", laid_nock_arrow_most), ("nock/arrow.measures", laid_nock_arrow_measures)] }
def ArrowMostSaid : Prop := arrowMostRow.holds Tryz.pinned (OpenSpec.ofChange arrowMostSpec)

/-- ITS FALSE NEIGHBOUR: 'it returns false'. Refute it at one input. -/
def arrowMostWrong : ChangeSpec := { name := "arrowMost", fn := fun _ => fun
  | [d1, d2, d3] => { results := [.lit (.bool false)], args := [d1, d2, d3] }
  | _ => none }
def ArrowMostWrongFalsely : Prop := arrowMostRow.holds Tryz.pinned (OpenSpec.ofChange arrowMostWrong)

/-- 'nocklaw01.ArrowAnyOrder': WHATEVER THE INPUT: true; the input reads as it did. -/
def arrowAnyOrderSpec : ChangeSpec := { name := "arrowAnyOrder", fn := fun _ => fun
  | [d1, d2, d3] => { results := [.lit (.bool true)], args := [d1, d2, d3] }
  | _ => none }
def arrowAnyOrderRow : OpenClaim := { program := "ytedkbdkbbnemlaagreatdoor", sum := "a74e61d076d9f948da90a636e3fde4bba32ef7552eaea1d87ee825aed26e3cc5", func := "nock/nocklaw01.ArrowAnyOrder", spec := "arrowAnyOrder", inPlace := ["(*sync.WaitGroup).Add", "internal/race.ReleaseMerge", "internal/race.Disable", "internal/race.Enable", "internal/synctest.IsInBubble", "internal/synctest.Associate[sync.WaitGroup]", "sync.fatal", "sync/atomic.OrUint64", "sync/atomic.AddUint64", "internal/race.Read", "sync/atomic.LoadUint64", "sync/atomic.StoreUint64", "internal/synctest.Disassociate[sync.WaitGroup]", "sync.runtime_Semrelease", "(*sync.WaitGroup).Done", "(*sync.WaitGroup).Wait", "internal/race.Acquire", "internal/synctest.IsAssociated[sync.WaitGroup]", "sync/atomic.CompareAndSwapUint64", "internal/race.Write", "sync.runtime_SemacquireWaitGroup"], unfollowed := true, recurses := true, named := ["nock/arrow.measures", "nock/arrow.most", "math/bits.deBruijn32tab", "math/bits.deBruijn64tab"], plainKeys := false, leaving := true, apart := false, laid := [("math/bits.deBruijn32tab", laid_math_bits_deBruijn32tab), ("math/bits.deBruijn64tab", laid_math_bits_deBruijn64tab), ("nock/arrow.most", laid_nock_arrow_most), ("nock/arrow.measures", laid_nock_arrow_measures)] }
def ArrowAnyOrderSaid : Prop := arrowAnyOrderRow.holds Tryz.pinned (OpenSpec.ofChange arrowAnyOrderSpec)

/-- ITS FALSE NEIGHBOUR: 'it returns false'. Refute it at one input. -/
def arrowAnyOrderWrong : ChangeSpec := { name := "arrowAnyOrder", fn := fun _ => fun
  | [d1, d2, d3] => { results := [.lit (.bool false)], args := [d1, d2, d3] }
  | _ => none }
def ArrowAnyOrderWrongFalsely : Prop := arrowAnyOrderRow.holds Tryz.pinned (OpenSpec.ofChange arrowAnyOrderWrong)

/-- 'nocklaw01.ArrowEach': WHATEVER THE INPUT: true; the input reads as it did. -/
def arrowEachSpec : ChangeSpec := { name := "arrowEach", fn := fun _ => fun
  | [d1, d2, d3, d4] => { results := [.lit (.bool true)], args := [d1, d2, d3, d4] }
  | _ => none }
def arrowEachRow : OpenClaim := { program := "ytedkbdkbbnemlaagreatdoor", sum := "a74e61d076d9f948da90a636e3fde4bba32ef7552eaea1d87ee825aed26e3cc5", func := "nock/nocklaw01.ArrowEach", spec := "arrowEach", inPlace := ["(*sync.WaitGroup).Add", "internal/race.ReleaseMerge", "internal/race.Disable", "internal/race.Enable", "internal/synctest.IsInBubble", "internal/synctest.Associate[sync.WaitGroup]", "sync.fatal", "sync/atomic.OrUint64", "sync/atomic.AddUint64", "internal/race.Read", "sync/atomic.LoadUint64", "sync/atomic.StoreUint64", "internal/synctest.Disassociate[sync.WaitGroup]", "sync.runtime_Semrelease", "(*sync.WaitGroup).Done", "(*sync.WaitGroup).Wait", "internal/race.Acquire", "internal/synctest.IsAssociated[sync.WaitGroup]", "sync/atomic.CompareAndSwapUint64", "internal/race.Write", "sync.runtime_SemacquireWaitGroup"], unfollowed := true, recurses := true, named := ["nock/arrow.measures", "nock/arrow.most", "math/bits.deBruijn32tab", "math/bits.deBruijn64tab"], plainKeys := false, leaving := true, apart := false, laid := [("math/bits.deBruijn32tab", laid_math_bits_deBruijn32tab), ("math/bits.deBruijn64tab", laid_math_bits_deBruijn64tab), ("nock/arrow.most", laid_nock_arrow_most), ("nock/arrow.measures", laid_nock_arrow_measures)] }
def ArrowEachSaid : Prop := arrowEachRow.holds Tryz.pinned (OpenSpec.ofChange arrowEachSpec)

/-- ITS FALSE NEIGHBOUR: 'it returns false'. Refute it at one input. -/
def arrowEachWrong : ChangeSpec := { name := "arrowEach", fn := fun _ => fun
  | [d1, d2, d3, d4] => { results := [.lit (.bool false)], args := [d1, d2, d3, d4] }
  | _ => none }
def ArrowEachWrongFalsely : Prop := arrowEachRow.holds Tryz.pinned (OpenSpec.ofChange arrowEachWrong)

/-- 'nocklaw01.ArrowGrows': WHATEVER THE INPUT: true; the input reads as it did. -/
def arrowGrowsSpec : ChangeSpec := { name := "arrowGrows", fn := fun _ => fun
  | [d1, d2, d3, d4, d5] => { results := [.lit (.bool true)], args := [d1, d2, d3, d4, d5] }
  | _ => none }
def arrowGrowsRow : OpenClaim := { program := "ytedkbdkbbnemlaagreatdoor", sum := "a74e61d076d9f948da90a636e3fde4bba32ef7552eaea1d87ee825aed26e3cc5", func := "nock/nocklaw01.ArrowGrows", spec := "arrowGrows", inPlace := ["(*sync.WaitGroup).Add", "internal/race.ReleaseMerge", "internal/race.Disable", "internal/race.Enable", "internal/synctest.IsInBubble", "internal/synctest.Associate[sync.WaitGroup]", "sync.fatal", "sync/atomic.OrUint64", "sync/atomic.AddUint64", "internal/race.Read", "sync/atomic.LoadUint64", "sync/atomic.StoreUint64", "internal/synctest.Disassociate[sync.WaitGroup]", "sync.runtime_Semrelease", "(*sync.WaitGroup).Done", "(*sync.WaitGroup).Wait", "internal/race.Acquire", "internal/synctest.IsAssociated[sync.WaitGroup]", "sync/atomic.CompareAndSwapUint64", "internal/race.Write", "sync.runtime_SemacquireWaitGroup"], unfollowed := true, recurses := true, named := ["nock/arrow.measures", "nock/arrow.most", "math/bits.deBruijn32tab", "math/bits.deBruijn64tab"], plainKeys := false, leaving := true, apart := false, laid := [("math/bits.deBruijn32tab", laid_math_bits_deBruijn32tab), ("math/bits.deBruijn64tab", laid_math_bits_deBruijn64tab), ("nock/arrow.most", laid_nock_arrow_most), ("nock/arrow.measures", laid_nock_arrow_measures)] }
def ArrowGrowsSaid : Prop := arrowGrowsRow.holds Tryz.pinned (OpenSpec.ofChange arrowGrowsSpec)

/-- ITS FALSE NEIGHBOUR: 'it returns false'. Refute it at one input. -/
def arrowGrowsWrong : ChangeSpec := { name := "arrowGrows", fn := fun _ => fun
  | [d1, d2, d3, d4, d5] => { results := [.lit (.bool false)], args := [d1, d2, d3, d4, d5] }
  | _ => none }
def ArrowGrowsWrongFalsely : Prop := arrowGrowsRow.holds Tryz.pinned (OpenSpec.ofChange arrowGrowsWrong)

/-- 'nocklaw01.ArrowBest': WHATEVER THE INPUT: true; the input reads as it did. -/
def arrowBestSpec : ChangeSpec := { name := "arrowBest", fn := fun _ => fun
  | [d1, d2, d3, d4] => { results := [.lit (.bool true)], args := [d1, d2, d3, d4] }
  | _ => none }
def arrowBestRow : OpenClaim := { program := "ytedkbdkbbnemlaagreatdoor", sum := "a74e61d076d9f948da90a636e3fde4bba32ef7552eaea1d87ee825aed26e3cc5", func := "nock/nocklaw01.ArrowBest", spec := "arrowBest", inPlace := ["(*sync.WaitGroup).Add", "internal/race.ReleaseMerge", "internal/race.Disable", "internal/race.Enable", "internal/synctest.IsInBubble", "internal/synctest.Associate[sync.WaitGroup]", "sync.fatal", "sync/atomic.OrUint64", "sync/atomic.AddUint64", "internal/race.Read", "sync/atomic.LoadUint64", "sync/atomic.StoreUint64", "internal/synctest.Disassociate[sync.WaitGroup]", "sync.runtime_Semrelease", "(*sync.WaitGroup).Done", "(*sync.WaitGroup).Wait", "internal/race.Acquire", "internal/synctest.IsAssociated[sync.WaitGroup]", "sync/atomic.CompareAndSwapUint64", "internal/race.Write", "sync.runtime_SemacquireWaitGroup"], unfollowed := true, recurses := true, named := ["nock/arrow.measures", "nock/arrow.most", "math/bits.deBruijn32tab", "math/bits.deBruijn64tab"], plainKeys := false, leaving := true, apart := false, laid := [("math/bits.deBruijn32tab", laid_math_bits_deBruijn32tab), ("math/bits.deBruijn64tab", laid_math_bits_deBruijn64tab), ("nock/arrow.most", laid_nock_arrow_most), ("nock/arrow.measures", laid_nock_arrow_measures)] }
def ArrowBestSaid : Prop := arrowBestRow.holds Tryz.pinned (OpenSpec.ofChange arrowBestSpec)

/-- ITS FALSE NEIGHBOUR: 'it returns false'. Refute it at one input. -/
def arrowBestWrong : ChangeSpec := { name := "arrowBest", fn := fun _ => fun
  | [d1, d2, d3, d4] => { results := [.lit (.bool false)], args := [d1, d2, d3, d4] }
  | _ => none }
def ArrowBestWrongFalsely : Prop := arrowBestRow.holds Tryz.pinned (OpenSpec.ofChange arrowBestWrong)

/-- 'nocklaw01.ArrowSets': WHATEVER THE INPUT: true; the input reads as it did. -/
def arrowSetsSpec : ChangeSpec := { name := "arrowSets", fn := fun _ => fun
  | [d1, d2] => { results := [.lit (.bool true)], args := [d1, d2] }
  | _ => none }
def arrowSetsRow : OpenClaim := { program := "ytedkbdkbbnemlaagreatdoor", sum := "a74e61d076d9f948da90a636e3fde4bba32ef7552eaea1d87ee825aed26e3cc5", func := "nock/nocklaw01.ArrowSets", spec := "arrowSets", inPlace := ["(*sync.WaitGroup).Add", "internal/race.ReleaseMerge", "internal/race.Disable", "internal/race.Enable", "internal/synctest.IsInBubble", "internal/synctest.Associate[sync.WaitGroup]", "sync.fatal", "sync/atomic.OrUint64", "sync/atomic.AddUint64", "internal/race.Read", "sync/atomic.LoadUint64", "sync/atomic.StoreUint64", "internal/synctest.Disassociate[sync.WaitGroup]", "sync.runtime_Semrelease", "(*sync.WaitGroup).Done", "(*sync.WaitGroup).Wait", "internal/race.Acquire", "internal/synctest.IsAssociated[sync.WaitGroup]", "sync/atomic.CompareAndSwapUint64", "internal/race.Write", "sync.runtime_SemacquireWaitGroup"], unfollowed := true, recurses := true, named := ["nock/arrow.measures", "nock/arrow.most", "math/bits.deBruijn32tab", "math/bits.deBruijn64tab"], plainKeys := false, leaving := true, apart := false, laid := [("math/bits.deBruijn32tab", laid_math_bits_deBruijn32tab), ("math/bits.deBruijn64tab", laid_math_bits_deBruijn64tab), ("nock/arrow.most", laid_nock_arrow_most), ("nock/arrow.measures", laid_nock_arrow_measures)] }
def ArrowSetsSaid : Prop := arrowSetsRow.holds Tryz.pinned (OpenSpec.ofChange arrowSetsSpec)

/-- ITS FALSE NEIGHBOUR: 'it returns false'. Refute it at one input. -/
def arrowSetsWrong : ChangeSpec := { name := "arrowSets", fn := fun _ => fun
  | [d1, d2] => { results := [.lit (.bool false)], args := [d1, d2] }
  | _ => none }
def ArrowSetsWrongFalsely : Prop := arrowSetsRow.holds Tryz.pinned (OpenSpec.ofChange arrowSetsWrong)

/-- 'nocklaw01.ArrowShots': WHATEVER THE INPUT: true; the input reads as it did. -/
def arrowShotsSpec : ChangeSpec := { name := "arrowShots", fn := fun _ => fun
  | [d1, d2] => { results := [.lit (.bool true)], args := [d1, d2] }
  | _ => none }
def arrowShotsRow : OpenClaim := { program := "ytedkbdkbbnemlaagreatdoor", sum := "a74e61d076d9f948da90a636e3fde4bba32ef7552eaea1d87ee825aed26e3cc5", func := "nock/nocklaw01.ArrowShots", spec := "arrowShots", inPlace := ["(*sync.WaitGroup).Add", "internal/race.ReleaseMerge", "internal/race.Disable", "internal/race.Enable", "internal/synctest.IsInBubble", "internal/synctest.Associate[sync.WaitGroup]", "sync.fatal", "sync/atomic.OrUint64", "sync/atomic.AddUint64", "internal/race.Read", "sync/atomic.LoadUint64", "sync/atomic.StoreUint64", "internal/synctest.Disassociate[sync.WaitGroup]", "sync.runtime_Semrelease", "(*sync.WaitGroup).Done", "(*sync.WaitGroup).Wait", "internal/race.Acquire", "internal/synctest.IsAssociated[sync.WaitGroup]", "sync/atomic.CompareAndSwapUint64", "internal/race.Write", "sync.runtime_SemacquireWaitGroup"], unfollowed := true, recurses := true, named := ["nock/arrow.measures", "nock/arrow.most", "math/bits.deBruijn32tab", "math/bits.deBruijn64tab"], plainKeys := false, leaving := true, apart := false, laid := [("math/bits.deBruijn32tab", laid_math_bits_deBruijn32tab), ("math/bits.deBruijn64tab", laid_math_bits_deBruijn64tab), ("nock/arrow.most", laid_nock_arrow_most), ("nock/arrow.measures", laid_nock_arrow_measures)] }
def ArrowShotsSaid : Prop := arrowShotsRow.holds Tryz.pinned (OpenSpec.ofChange arrowShotsSpec)

/-- ITS FALSE NEIGHBOUR: 'it returns false'. Refute it at one input. -/
def arrowShotsWrong : ChangeSpec := { name := "arrowShots", fn := fun _ => fun
  | [d1, d2] => { results := [.lit (.bool false)], args := [d1, d2] }
  | _ => none }
def ArrowShotsWrongFalsely : Prop := arrowShotsRow.holds Tryz.pinned (OpenSpec.ofChange arrowShotsWrong)

/-- 'nocklaw01.ArrowListed': WHATEVER THE INPUT: true; the input reads as it did. -/
def arrowListedSpec : ChangeSpec := { name := "arrowListed", fn := fun _ => fun
  | [d1, d2] => { results := [.lit (.bool true)], args := [d1, d2] }
  | _ => none }
def arrowListedRow : OpenClaim := { program := "ytedkbdkbbnemlaagreatdoor", sum := "a74e61d076d9f948da90a636e3fde4bba32ef7552eaea1d87ee825aed26e3cc5", func := "nock/nocklaw01.ArrowListed", spec := "arrowListed", inPlace := ["(*sync.WaitGroup).Add", "internal/race.ReleaseMerge", "internal/race.Disable", "internal/race.Enable", "internal/synctest.IsInBubble", "internal/synctest.Associate[sync.WaitGroup]", "sync.fatal", "sync/atomic.OrUint64", "sync/atomic.AddUint64", "internal/race.Read", "sync/atomic.LoadUint64", "sync/atomic.StoreUint64", "internal/synctest.Disassociate[sync.WaitGroup]", "sync.runtime_Semrelease", "(*sync.WaitGroup).Done", "(*sync.WaitGroup).Wait", "internal/race.Acquire", "internal/synctest.IsAssociated[sync.WaitGroup]", "sync/atomic.CompareAndSwapUint64", "internal/race.Write", "sync.runtime_SemacquireWaitGroup"], unfollowed := true, recurses := true, named := ["nock/arrow.measures", "nock/arrow.most", "math/bits.deBruijn32tab", "math/bits.deBruijn64tab"], plainKeys := false, leaving := true, apart := false, laid := [("math/bits.deBruijn32tab", laid_math_bits_deBruijn32tab), ("math/bits.deBruijn64tab", laid_math_bits_deBruijn64tab), ("nock/arrow.most", laid_nock_arrow_most), ("nock/arrow.measures", laid_nock_arrow_measures)] }
def ArrowListedSaid : Prop := arrowListedRow.holds Tryz.pinned (OpenSpec.ofChange arrowListedSpec)

/-- ITS FALSE NEIGHBOUR: 'it returns false'. Refute it at one input. -/
def arrowListedWrong : ChangeSpec := { name := "arrowListed", fn := fun _ => fun
  | [d1, d2] => { results := [.lit (.bool false)], args := [d1, d2] }
  | _ => none }
def ArrowListedWrongFalsely : Prop := arrowListedRow.holds Tryz.pinned (OpenSpec.ofChange arrowListedWrong)

/-- 'nocklaw01.ArrowReal': WHATEVER THE INPUT: true; the input reads as it did. -/
def arrowRealSpec : ChangeSpec := { name := "arrowReal", fn := fun _ => fun
  | [d1, d2, d3, d4, d5] => { results := [.lit (.bool true)], args := [d1, d2, d3, d4, d5] }
  | _ => none }
def arrowRealRow : OpenClaim := { program := "ytedkbdkbbnemlaagreatdoor", sum := "a74e61d076d9f948da90a636e3fde4bba32ef7552eaea1d87ee825aed26e3cc5", func := "nock/nocklaw01.ArrowReal", spec := "arrowReal", inPlace := ["(*sync.WaitGroup).Add", "internal/race.ReleaseMerge", "internal/race.Disable", "internal/race.Enable", "internal/synctest.IsInBubble", "internal/synctest.Associate[sync.WaitGroup]", "sync.fatal", "sync/atomic.OrUint64", "sync/atomic.AddUint64", "internal/race.Read", "sync/atomic.LoadUint64", "sync/atomic.StoreUint64", "internal/synctest.Disassociate[sync.WaitGroup]", "sync.runtime_Semrelease", "(*sync.WaitGroup).Done", "(*sync.WaitGroup).Wait", "internal/race.Acquire", "internal/synctest.IsAssociated[sync.WaitGroup]", "sync/atomic.CompareAndSwapUint64", "internal/race.Write", "sync.runtime_SemacquireWaitGroup"], unfollowed := true, recurses := true, named := ["nock/arrow.measures", "nock/arrow.most", "math/bits.deBruijn32tab", "math/bits.deBruijn64tab"], plainKeys := false, leaving := true, apart := false, laid := [("math/bits.deBruijn32tab", laid_math_bits_deBruijn32tab), ("math/bits.deBruijn64tab", laid_math_bits_deBruijn64tab), ("nock/arrow.most", laid_nock_arrow_most), ("nock/arrow.measures", laid_nock_arrow_measures)] }
def ArrowRealSaid : Prop := arrowRealRow.holds Tryz.pinned (OpenSpec.ofChange arrowRealSpec)

/-- ITS FALSE NEIGHBOUR: 'it returns false'. Refute it at one input. -/
def arrowRealWrong : ChangeSpec := { name := "arrowReal", fn := fun _ => fun
  | [d1, d2, d3, d4, d5] => { results := [.lit (.bool false)], args := [d1, d2, d3, d4, d5] }
  | _ => none }
def ArrowRealWrongFalsely : Prop := arrowRealRow.holds Tryz.pinned (OpenSpec.ofChange arrowRealWrong)

/-- 'nocklaw01.ArrowClashes': WHATEVER THE INPUT: true; the input reads as it did. -/
def arrowClashesSpec : ChangeSpec := { name := "arrowClashes", fn := fun _ => fun
  | [d1, d2] => { results := [.lit (.bool true)], args := [d1, d2] }
  | _ => none }
def arrowClashesRow : OpenClaim := { program := "ytedkbdkbbnemlaagreatdoor", sum := "a74e61d076d9f948da90a636e3fde4bba32ef7552eaea1d87ee825aed26e3cc5", func := "nock/nocklaw01.ArrowClashes", spec := "arrowClashes", inPlace := ["(*sync.WaitGroup).Add", "internal/race.ReleaseMerge", "internal/race.Disable", "internal/race.Enable", "internal/synctest.IsInBubble", "internal/synctest.Associate[sync.WaitGroup]", "sync.fatal", "sync/atomic.OrUint64", "sync/atomic.AddUint64", "internal/race.Read", "sync/atomic.LoadUint64", "sync/atomic.StoreUint64", "internal/synctest.Disassociate[sync.WaitGroup]", "sync.runtime_Semrelease", "(*sync.WaitGroup).Done", "(*sync.WaitGroup).Wait", "internal/race.Acquire", "internal/synctest.IsAssociated[sync.WaitGroup]", "sync/atomic.CompareAndSwapUint64", "internal/race.Write", "sync.runtime_SemacquireWaitGroup"], unfollowed := true, recurses := true, named := ["nock/arrow.measures", "nock/arrow.most", "math/bits.deBruijn32tab", "math/bits.deBruijn64tab"], plainKeys := false, leaving := true, apart := false, laid := [("math/bits.deBruijn32tab", laid_math_bits_deBruijn32tab), ("math/bits.deBruijn64tab", laid_math_bits_deBruijn64tab), ("nock/arrow.most", laid_nock_arrow_most), ("nock/arrow.measures", laid_nock_arrow_measures)] }
def ArrowClashesSaid : Prop := arrowClashesRow.holds Tryz.pinned (OpenSpec.ofChange arrowClashesSpec)

/-- ITS FALSE NEIGHBOUR: 'it returns false'. Refute it at one input. -/
def arrowClashesWrong : ChangeSpec := { name := "arrowClashes", fn := fun _ => fun
  | [d1, d2] => { results := [.lit (.bool false)], args := [d1, d2] }
  | _ => none }
def ArrowClashesWrongFalsely : Prop := arrowClashesRow.holds Tryz.pinned (OpenSpec.ofChange arrowClashesWrong)

/-- 'nocklaw01.ArrowMeasures': WHATEVER THE INPUT: true; the input reads as it did. -/
def arrowMeasuresSpec : ChangeSpec := { name := "arrowMeasures", fn := fun _ => fun
  | [d1, d2, d3, d4] => { results := [.lit (.bool true)], args := [d1, d2, d3, d4] }
  | _ => none }
def arrowMeasuresRow : OpenClaim := { program := "ytedkbdkbbnemlaagreatdoor", sum := "a74e61d076d9f948da90a636e3fde4bba32ef7552eaea1d87ee825aed26e3cc5", func := "nock/nocklaw01.ArrowMeasures", spec := "arrowMeasures", inPlace := ["(*sync.WaitGroup).Add", "internal/race.ReleaseMerge", "internal/race.Disable", "internal/race.Enable", "internal/synctest.IsInBubble", "internal/synctest.Associate[sync.WaitGroup]", "sync.fatal", "sync/atomic.OrUint64", "sync/atomic.AddUint64", "internal/race.Read", "sync/atomic.LoadUint64", "sync/atomic.StoreUint64", "internal/synctest.Disassociate[sync.WaitGroup]", "sync.runtime_Semrelease", "(*sync.WaitGroup).Done", "(*sync.WaitGroup).Wait", "internal/race.Acquire", "internal/synctest.IsAssociated[sync.WaitGroup]", "sync/atomic.CompareAndSwapUint64", "internal/race.Write", "sync.runtime_SemacquireWaitGroup"], unfollowed := true, recurses := true, named := ["nock/arrow.measures", "nock/arrow.most", "math/bits.deBruijn32tab", "math/bits.deBruijn64tab"], plainKeys := false, leaving := true, apart := false, laid := [("math/bits.deBruijn32tab", laid_math_bits_deBruijn32tab), ("math/bits.deBruijn64tab", laid_math_bits_deBruijn64tab), ("nock/arrow.most", laid_nock_arrow_most), ("nock/arrow.measures", laid_nock_arrow_measures)] }
def ArrowMeasuresSaid : Prop := arrowMeasuresRow.holds Tryz.pinned (OpenSpec.ofChange arrowMeasuresSpec)

/-- ITS FALSE NEIGHBOUR: 'it returns false'. Refute it at one input. -/
def arrowMeasuresWrong : ChangeSpec := { name := "arrowMeasures", fn := fun _ => fun
  | [d1, d2, d3, d4] => { results := [.lit (.bool false)], args := [d1, d2, d3, d4] }
  | _ => none }
def ArrowMeasuresWrongFalsely : Prop := arrowMeasuresRow.holds Tryz.pinned (OpenSpec.ofChange arrowMeasuresWrong)

/-- 'nocklaw01.ArrowKnown': WHATEVER THE INPUT: true; the input reads as it did. -/
def arrowKnownSpec : ChangeSpec := { name := "arrowKnown", fn := fun _ => fun
  | [d1, d2, d3, d4, d5, d6] => { results := [.lit (.bool true)], args := [d1, d2, d3, d4, d5, d6] }
  | _ => none }
def arrowKnownRow : OpenClaim := { program := "ytedkbdkbbnemlaagreatdoor", sum := "a74e61d076d9f948da90a636e3fde4bba32ef7552eaea1d87ee825aed26e3cc5", func := "nock/nocklaw01.ArrowKnown", spec := "arrowKnown", inPlace := ["(*sync.WaitGroup).Add", "internal/race.ReleaseMerge", "internal/race.Disable", "internal/race.Enable", "internal/synctest.IsInBubble", "internal/synctest.Associate[sync.WaitGroup]", "sync.fatal", "sync/atomic.OrUint64", "sync/atomic.AddUint64", "internal/race.Read", "sync/atomic.LoadUint64", "sync/atomic.StoreUint64", "internal/synctest.Disassociate[sync.WaitGroup]", "sync.runtime_Semrelease", "(*sync.WaitGroup).Done", "(*sync.WaitGroup).Wait", "internal/race.Acquire", "internal/synctest.IsAssociated[sync.WaitGroup]", "sync/atomic.CompareAndSwapUint64", "internal/race.Write", "sync.runtime_SemacquireWaitGroup"], unfollowed := true, recurses := true, named := ["nock/arrow.measures", "nock/arrow.most", "math/bits.deBruijn32tab", "math/bits.deBruijn64tab"], plainKeys := false, leaving := true, apart := false, laid := [("math/bits.deBruijn32tab", laid_math_bits_deBruijn32tab), ("math/bits.deBruijn64tab", laid_math_bits_deBruijn64tab), ("nock/arrow.most", laid_nock_arrow_most), ("nock/arrow.measures", laid_nock_arrow_measures)] }
def ArrowKnownSaid : Prop := arrowKnownRow.holds Tryz.pinned (OpenSpec.ofChange arrowKnownSpec)

/-- ITS FALSE NEIGHBOUR: 'it returns false'. Refute it at one input. -/
def arrowKnownWrong : ChangeSpec := { name := "arrowKnown", fn := fun _ => fun
  | [d1, d2, d3, d4, d5, d6] => { results := [.lit (.bool false)], args := [d1, d2, d3, d4, d5, d6] }
  | _ => none }
def ArrowKnownWrongFalsely : Prop := arrowKnownRow.holds Tryz.pinned (OpenSpec.ofChange arrowKnownWrong)

/-- 'nocklaw01.ArrowStocks': WHATEVER THE INPUT: true; the input reads as it did. -/
def arrowStocksSpec : ChangeSpec := { name := "arrowStocks", fn := fun _ => fun
  | [d1, d2, d3, d4, d5] => { results := [.lit (.bool true)], args := [d1, d2, d3, d4, d5] }
  | _ => none }
def arrowStocksRow : OpenClaim := { program := "ytedkbdkbbnemlaagreatdoor", sum := "a74e61d076d9f948da90a636e3fde4bba32ef7552eaea1d87ee825aed26e3cc5", func := "nock/nocklaw01.ArrowStocks", spec := "arrowStocks", inPlace := ["(*sync.WaitGroup).Add", "internal/race.ReleaseMerge", "internal/race.Disable", "internal/race.Enable", "internal/synctest.IsInBubble", "internal/synctest.Associate[sync.WaitGroup]", "sync.fatal", "sync/atomic.OrUint64", "sync/atomic.AddUint64", "internal/race.Read", "sync/atomic.LoadUint64", "sync/atomic.StoreUint64", "internal/synctest.Disassociate[sync.WaitGroup]", "sync.runtime_Semrelease", "(*sync.WaitGroup).Done", "(*sync.WaitGroup).Wait", "internal/race.Acquire", "internal/synctest.IsAssociated[sync.WaitGroup]", "sync/atomic.CompareAndSwapUint64", "internal/race.Write", "sync.runtime_SemacquireWaitGroup"], unfollowed := true, recurses := true, named := ["nock/arrow.measures", "nock/arrow.most", "math/bits.deBruijn32tab", "math/bits.deBruijn64tab"], plainKeys := false, leaving := true, apart := false, laid := [("math/bits.deBruijn32tab", laid_math_bits_deBruijn32tab), ("math/bits.deBruijn64tab", laid_math_bits_deBruijn64tab), ("nock/arrow.most", laid_nock_arrow_most), ("nock/arrow.measures", laid_nock_arrow_measures)] }
def ArrowStocksSaid : Prop := arrowStocksRow.holds Tryz.pinned (OpenSpec.ofChange arrowStocksSpec)

/-- ITS FALSE NEIGHBOUR: 'it returns false'. Refute it at one input. -/
def arrowStocksWrong : ChangeSpec := { name := "arrowStocks", fn := fun _ => fun
  | [d1, d2, d3, d4, d5] => { results := [.lit (.bool false)], args := [d1, d2, d3, d4, d5] }
  | _ => none }
def ArrowStocksWrongFalsely : Prop := arrowStocksRow.holds Tryz.pinned (OpenSpec.ofChange arrowStocksWrong)

/-- 'nocklaw01.ArrowMarks': WHATEVER THE INPUT: true; the input reads as it did. -/
def arrowMarksSpec : ChangeSpec := { name := "arrowMarks", fn := fun _ => fun
  | [d1, d2, d3, d4, d5] => { results := [.lit (.bool true)], args := [d1, d2, d3, d4, d5] }
  | _ => none }
def arrowMarksRow : OpenClaim := { program := "ytedkbdkbbnemlaagreatdoor", sum := "a74e61d076d9f948da90a636e3fde4bba32ef7552eaea1d87ee825aed26e3cc5", func := "nock/nocklaw01.ArrowMarks", spec := "arrowMarks", inPlace := ["(*sync.WaitGroup).Add", "internal/race.ReleaseMerge", "internal/race.Disable", "internal/race.Enable", "internal/synctest.IsInBubble", "internal/synctest.Associate[sync.WaitGroup]", "sync.fatal", "sync/atomic.OrUint64", "sync/atomic.AddUint64", "internal/race.Read", "sync/atomic.LoadUint64", "sync/atomic.StoreUint64", "internal/synctest.Disassociate[sync.WaitGroup]", "sync.runtime_Semrelease", "(*sync.WaitGroup).Done", "(*sync.WaitGroup).Wait", "internal/race.Acquire", "internal/synctest.IsAssociated[sync.WaitGroup]", "sync/atomic.CompareAndSwapUint64", "internal/race.Write", "sync.runtime_SemacquireWaitGroup"], unfollowed := true, recurses := true, named := ["nock/arrow.measures", "nock/arrow.most", "math/bits.deBruijn32tab", "math/bits.deBruijn64tab"], plainKeys := false, leaving := true, apart := false, laid := [("math/bits.deBruijn32tab", laid_math_bits_deBruijn32tab), ("math/bits.deBruijn64tab", laid_math_bits_deBruijn64tab), ("nock/arrow.most", laid_nock_arrow_most), ("nock/arrow.measures", laid_nock_arrow_measures)] }
def ArrowMarksSaid : Prop := arrowMarksRow.holds Tryz.pinned (OpenSpec.ofChange arrowMarksSpec)

/-- ITS FALSE NEIGHBOUR: 'it returns false'. Refute it at one input. -/
def arrowMarksWrong : ChangeSpec := { name := "arrowMarks", fn := fun _ => fun
  | [d1, d2, d3, d4, d5] => { results := [.lit (.bool false)], args := [d1, d2, d3, d4, d5] }
  | _ => none }
def ArrowMarksWrongFalsely : Prop := arrowMarksRow.holds Tryz.pinned (OpenSpec.ofChange arrowMarksWrong)

/-- 'nocklaw01.ArrowOrder': WHATEVER THE INPUT: true; the input reads as it did. -/
def arrowOrderSpec : ChangeSpec := { name := "arrowOrder", fn := fun _ => fun
  | [d1, d2, d3, d4] => { results := [.lit (.bool true)], args := [d1, d2, d3, d4] }
  | _ => none }
def arrowOrderRow : OpenClaim := { program := "ytedkbdkbbnemlaagreatdoor", sum := "a74e61d076d9f948da90a636e3fde4bba32ef7552eaea1d87ee825aed26e3cc5", func := "nock/nocklaw01.ArrowOrder", spec := "arrowOrder", inPlace := ["(*sync.WaitGroup).Add", "internal/race.ReleaseMerge", "internal/race.Disable", "internal/race.Enable", "internal/synctest.IsInBubble", "internal/synctest.Associate[sync.WaitGroup]", "sync.fatal", "sync/atomic.OrUint64", "sync/atomic.AddUint64", "internal/race.Read", "sync/atomic.LoadUint64", "sync/atomic.StoreUint64", "internal/synctest.Disassociate[sync.WaitGroup]", "sync.runtime_Semrelease", "(*sync.WaitGroup).Done", "(*sync.WaitGroup).Wait", "internal/race.Acquire", "internal/synctest.IsAssociated[sync.WaitGroup]", "sync/atomic.CompareAndSwapUint64", "internal/race.Write", "sync.runtime_SemacquireWaitGroup"], unfollowed := true, recurses := true, named := ["nock/arrow.measures", "nock/arrow.most", "math/bits.deBruijn32tab", "math/bits.deBruijn64tab"], plainKeys := false, leaving := true, apart := false, laid := [("math/bits.deBruijn32tab", laid_math_bits_deBruijn32tab), ("math/bits.deBruijn64tab", laid_math_bits_deBruijn64tab), ("nock/arrow.most", laid_nock_arrow_most), ("nock/arrow.measures", laid_nock_arrow_measures)] }
def ArrowOrderSaid : Prop := arrowOrderRow.holds Tryz.pinned (OpenSpec.ofChange arrowOrderSpec)

/-- ITS FALSE NEIGHBOUR: 'it returns false'. Refute it at one input. -/
def arrowOrderWrong : ChangeSpec := { name := "arrowOrder", fn := fun _ => fun
  | [d1, d2, d3, d4] => { results := [.lit (.bool false)], args := [d1, d2, d3, d4] }
  | _ => none }
def ArrowOrderWrongFalsely : Prop := arrowOrderRow.holds Tryz.pinned (OpenSpec.ofChange arrowOrderWrong)

/- THE SECOND FORM. 'bulk': how many values and letters a reading holds, each counted each time it is reached (what is shared counts as often as it is met; a slice's spare places count too). A statement '..UptoSaid' is the law's where the arguments, and the package variables that the reading takes, are together of bulk at most 1048576: NARROWER than '..Said'. Prove '..Said' where nothing that the law and all that it calls make is longer than what came in: it says more and counts as full. Else prove '..UptoSaid'. A law counts once. -/
mutual
def uptoBulk {H : Type} : DataW H → Nat
  | .lit (.string bytes) => bytes.length + 1
  | .lit _ => 1
  | .nil => 1
  | .ptr d => uptoBulk d + 1
  | .slice elems spare => uptoBulkAll elems + uptoBulkAll spare + 1
  | .agg parts => uptoBulkAll parts + 1
  | .iface _ d => uptoBulk d + 1
  | .map entries => uptoBulkEntries entries + 1
  | .held _ => 1
def uptoBulkAll {H : Type} : List (DataW H) → Nat
  | [] => 0
  | d :: r => uptoBulk d + uptoBulkAll r
def uptoBulkEntries {H : Type} : List (Lit × DataW H) → Nat
  | [] => 0
  | x :: r => uptoBulkEntry x + uptoBulkEntries r
def uptoBulkEntry {H : Type} : Lit × DataW H → Nat
  | (.string bytes, d) => bytes.length + uptoBulk d + 1
  | (_, d) => uptoBulk d + 1
 end
def uptoSmall : (H : Type) → List (DataW H) → Bool := fun _ ds => decide (uptoBulkAll ds ≤ 1048576)
def OpenSpec.upto (s : _root_.Go.ChangeSpec) : _root_.Go.OpenSpec := { _root_.Go.OpenSpec.ofChange s with cond := some uptoSmall }

/-- 'nocklaw01.ArrowMatches', WHERE WHAT IT READS IS OF BULK AT MOST 1048576: true; the input reads as it did. -/
def arrowMatchesUptoRow : OpenClaim := { program := "ytedkbdkbbnemlaagreatdoor", sum := "a74e61d076d9f948da90a636e3fde4bba32ef7552eaea1d87ee825aed26e3cc5", func := "nock/nocklaw01.ArrowMatches", spec := "arrowMatches", inPlace := ["(*sync.WaitGroup).Add", "internal/race.ReleaseMerge", "internal/race.Disable", "internal/race.Enable", "internal/synctest.IsInBubble", "internal/synctest.Associate[sync.WaitGroup]", "sync.fatal", "sync/atomic.OrUint64", "sync/atomic.AddUint64", "internal/race.Read", "sync/atomic.LoadUint64", "sync/atomic.StoreUint64", "internal/synctest.Disassociate[sync.WaitGroup]", "sync.runtime_Semrelease", "(*sync.WaitGroup).Done", "(*sync.WaitGroup).Wait", "internal/race.Acquire", "internal/synctest.IsAssociated[sync.WaitGroup]", "sync/atomic.CompareAndSwapUint64", "internal/race.Write", "sync.runtime_SemacquireWaitGroup"], unfollowed := true, recurses := true, named := ["nock/arrow.measures", "nock/arrow.most", "math/bits.deBruijn32tab", "math/bits.deBruijn64tab"], plainKeys := false, leaving := true, apart := false, laid := [("math/bits.deBruijn32tab", laid_math_bits_deBruijn32tab), ("math/bits.deBruijn64tab", laid_math_bits_deBruijn64tab), ("nock/arrow.most", laid_nock_arrow_most), ("nock/arrow.measures", laid_nock_arrow_measures)], narrowed := true }
def ArrowMatchesUptoSaid : Prop := arrowMatchesUptoRow.holds Tryz.pinned (OpenSpec.upto arrowMatchesSpec)

/-- 'nocklaw01.ArrowTrue', WHERE WHAT IT READS IS OF BULK AT MOST 1048576: true; the input reads as it did. -/
def arrowTrueUptoRow : OpenClaim := { program := "ytedkbdkbbnemlaagreatdoor", sum := "a74e61d076d9f948da90a636e3fde4bba32ef7552eaea1d87ee825aed26e3cc5", func := "nock/nocklaw01.ArrowTrue", spec := "arrowTrue", inPlace := ["(*sync.WaitGroup).Add", "internal/race.ReleaseMerge", "internal/race.Disable", "internal/race.Enable", "internal/synctest.IsInBubble", "internal/synctest.Associate[sync.WaitGroup]", "sync.fatal", "sync/atomic.OrUint64", "sync/atomic.AddUint64", "internal/race.Read", "sync/atomic.LoadUint64", "sync/atomic.StoreUint64", "internal/synctest.Disassociate[sync.WaitGroup]", "sync.runtime_Semrelease", "(*sync.WaitGroup).Done", "(*sync.WaitGroup).Wait", "internal/race.Acquire", "internal/synctest.IsAssociated[sync.WaitGroup]", "sync/atomic.CompareAndSwapUint64", "internal/race.Write", "sync.runtime_SemacquireWaitGroup"], unfollowed := true, recurses := true, named := ["nock/arrow.measures", "nock/arrow.most", "math/bits.deBruijn32tab", "math/bits.deBruijn64tab"], plainKeys := false, leaving := true, apart := false, laid := [("math/bits.deBruijn32tab", laid_math_bits_deBruijn32tab), ("math/bits.deBruijn64tab", laid_math_bits_deBruijn64tab), ("nock/arrow.most", laid_nock_arrow_most), ("nock/arrow.measures", laid_nock_arrow_measures)], narrowed := true }
def ArrowTrueUptoSaid : Prop := arrowTrueUptoRow.holds Tryz.pinned (OpenSpec.upto arrowTrueSpec)

/-- 'nocklaw01.ArrowPairs', WHERE WHAT IT READS IS OF BULK AT MOST 1048576: true; the input reads as it did. -/
def arrowPairsUptoRow : OpenClaim := { program := "ytedkbdkbbnemlaagreatdoor", sum := "a74e61d076d9f948da90a636e3fde4bba32ef7552eaea1d87ee825aed26e3cc5", func := "nock/nocklaw01.ArrowPairs", spec := "arrowPairs", inPlace := ["(*sync.WaitGroup).Add", "internal/race.ReleaseMerge", "internal/race.Disable", "internal/race.Enable", "internal/synctest.IsInBubble", "internal/synctest.Associate[sync.WaitGroup]", "sync.fatal", "sync/atomic.OrUint64", "sync/atomic.AddUint64", "internal/race.Read", "sync/atomic.LoadUint64", "sync/atomic.StoreUint64", "internal/synctest.Disassociate[sync.WaitGroup]", "sync.runtime_Semrelease", "(*sync.WaitGroup).Done", "(*sync.WaitGroup).Wait", "internal/race.Acquire", "internal/synctest.IsAssociated[sync.WaitGroup]", "sync/atomic.CompareAndSwapUint64", "internal/race.Write", "sync.runtime_SemacquireWaitGroup"], unfollowed := true, recurses := true, named := ["nock/arrow.measures", "nock/arrow.most", "math/bits.deBruijn32tab", "math/bits.deBruijn64tab"], plainKeys := false, leaving := true, apart := false, laid := [("math/bits.deBruijn32tab", laid_math_bits_deBruijn32tab), ("math/bits.deBruijn64tab", laid_math_bits_deBruijn64tab), ("nock/arrow.most", laid_nock_arrow_most), ("nock/arrow.measures", laid_nock_arrow_measures)], narrowed := true }
def ArrowPairsUptoSaid : Prop := arrowPairsUptoRow.holds Tryz.pinned (OpenSpec.upto arrowPairsSpec)

/-- 'nocklaw01.ArrowMost', WHERE WHAT IT READS IS OF BULK AT MOST 1048576: true; the input reads as it did. -/
def arrowMostUptoRow : OpenClaim := { program := "ytedkbdkbbnemlaagreatdoor", sum := "a74e61d076d9f948da90a636e3fde4bba32ef7552eaea1d87ee825aed26e3cc5", func := "nock/nocklaw01.ArrowMost", spec := "arrowMost", inPlace := ["(*sync.WaitGroup).Add", "internal/race.ReleaseMerge", "internal/race.Disable", "internal/race.Enable", "internal/synctest.IsInBubble", "internal/synctest.Associate[sync.WaitGroup]", "sync.fatal", "sync/atomic.OrUint64", "sync/atomic.AddUint64", "internal/race.Read", "sync/atomic.LoadUint64", "sync/atomic.StoreUint64", "internal/synctest.Disassociate[sync.WaitGroup]", "sync.runtime_Semrelease", "(*sync.WaitGroup).Done", "(*sync.WaitGroup).Wait", "internal/race.Acquire", "internal/synctest.IsAssociated[sync.WaitGroup]", "sync/atomic.CompareAndSwapUint64", "internal/race.Write", "sync.runtime_SemacquireWaitGroup"], unfollowed := true, recurses := true, named := ["nock/arrow.measures", "nock/arrow.most", "math/bits.deBruijn32tab", "math/bits.deBruijn64tab"], plainKeys := false, leaving := true, apart := false, laid := [("math/bits.deBruijn32tab", laid_math_bits_deBruijn32tab), ("math/bits.deBruijn64tab", laid_math_bits_deBruijn64tab), ("nock/arrow.most", laid_nock_arrow_most), ("nock/arrow.measures", laid_nock_arrow_measures)], narrowed := true }
def ArrowMostUptoSaid : Prop := arrowMostUptoRow.holds Tryz.pinned (OpenSpec.upto arrowMostSpec)

/-- 'nocklaw01.ArrowAnyOrder', WHERE WHAT IT READS IS OF BULK AT MOST 1048576: true; the input reads as it did. -/
def arrowAnyOrderUptoRow : OpenClaim := { program := "ytedkbdkbbnemlaagreatdoor", sum := "a74e61d076d9f948da90a636e3fde4bba32ef7552eaea1d87ee825aed26e3cc5", func := "nock/nocklaw01.ArrowAnyOrder", spec := "arrowAnyOrder", inPlace := ["(*sync.WaitGroup).Add", "internal/race.ReleaseMerge", "internal/race.Disable", "internal/race.Enable", "internal/synctest.IsInBubble", "internal/synctest.Associate[sync.WaitGroup]", "sync.fatal", "sync/atomic.OrUint64", "sync/atomic.AddUint64", "internal/race.Read", "sync/atomic.LoadUint64", "sync/atomic.StoreUint64", "internal/synctest.Disassociate[sync.WaitGroup]", "sync.runtime_Semrelease", "(*sync.WaitGroup).Done", "(*sync.WaitGroup).Wait", "internal/race.Acquire", "internal/synctest.IsAssociated[sync.WaitGroup]", "sync/atomic.CompareAndSwapUint64", "internal/race.Write", "sync.runtime_SemacquireWaitGroup"], unfollowed := true, recurses := true, named := ["nock/arrow.measures", "nock/arrow.most", "math/bits.deBruijn32tab", "math/bits.deBruijn64tab"], plainKeys := false, leaving := true, apart := false, laid := [("math/bits.deBruijn32tab", laid_math_bits_deBruijn32tab), ("math/bits.deBruijn64tab", laid_math_bits_deBruijn64tab), ("nock/arrow.most", laid_nock_arrow_most), ("nock/arrow.measures", laid_nock_arrow_measures)], narrowed := true }
def ArrowAnyOrderUptoSaid : Prop := arrowAnyOrderUptoRow.holds Tryz.pinned (OpenSpec.upto arrowAnyOrderSpec)

/-- 'nocklaw01.ArrowEach', WHERE WHAT IT READS IS OF BULK AT MOST 1048576: true; the input reads as it did. -/
def arrowEachUptoRow : OpenClaim := { program := "ytedkbdkbbnemlaagreatdoor", sum := "a74e61d076d9f948da90a636e3fde4bba32ef7552eaea1d87ee825aed26e3cc5", func := "nock/nocklaw01.ArrowEach", spec := "arrowEach", inPlace := ["(*sync.WaitGroup).Add", "internal/race.ReleaseMerge", "internal/race.Disable", "internal/race.Enable", "internal/synctest.IsInBubble", "internal/synctest.Associate[sync.WaitGroup]", "sync.fatal", "sync/atomic.OrUint64", "sync/atomic.AddUint64", "internal/race.Read", "sync/atomic.LoadUint64", "sync/atomic.StoreUint64", "internal/synctest.Disassociate[sync.WaitGroup]", "sync.runtime_Semrelease", "(*sync.WaitGroup).Done", "(*sync.WaitGroup).Wait", "internal/race.Acquire", "internal/synctest.IsAssociated[sync.WaitGroup]", "sync/atomic.CompareAndSwapUint64", "internal/race.Write", "sync.runtime_SemacquireWaitGroup"], unfollowed := true, recurses := true, named := ["nock/arrow.measures", "nock/arrow.most", "math/bits.deBruijn32tab", "math/bits.deBruijn64tab"], plainKeys := false, leaving := true, apart := false, laid := [("math/bits.deBruijn32tab", laid_math_bits_deBruijn32tab), ("math/bits.deBruijn64tab", laid_math_bits_deBruijn64tab), ("nock/arrow.most", laid_nock_arrow_most), ("nock/arrow.measures", laid_nock_arrow_measures)], narrowed := true }
def ArrowEachUptoSaid : Prop := arrowEachUptoRow.holds Tryz.pinned (OpenSpec.upto arrowEachSpec)

/-- 'nocklaw01.ArrowGrows', WHERE WHAT IT READS IS OF BULK AT MOST 1048576: true; the input reads as it did. -/
def arrowGrowsUptoRow : OpenClaim := { program := "ytedkbdkbbnemlaagreatdoor", sum := "a74e61d076d9f948da90a636e3fde4bba32ef7552eaea1d87ee825aed26e3cc5", func := "nock/nocklaw01.ArrowGrows", spec := "arrowGrows", inPlace := ["(*sync.WaitGroup).Add", "internal/race.ReleaseMerge", "internal/race.Disable", "internal/race.Enable", "internal/synctest.IsInBubble", "internal/synctest.Associate[sync.WaitGroup]", "sync.fatal", "sync/atomic.OrUint64", "sync/atomic.AddUint64", "internal/race.Read", "sync/atomic.LoadUint64", "sync/atomic.StoreUint64", "internal/synctest.Disassociate[sync.WaitGroup]", "sync.runtime_Semrelease", "(*sync.WaitGroup).Done", "(*sync.WaitGroup).Wait", "internal/race.Acquire", "internal/synctest.IsAssociated[sync.WaitGroup]", "sync/atomic.CompareAndSwapUint64", "internal/race.Write", "sync.runtime_SemacquireWaitGroup"], unfollowed := true, recurses := true, named := ["nock/arrow.measures", "nock/arrow.most", "math/bits.deBruijn32tab", "math/bits.deBruijn64tab"], plainKeys := false, leaving := true, apart := false, laid := [("math/bits.deBruijn32tab", laid_math_bits_deBruijn32tab), ("math/bits.deBruijn64tab", laid_math_bits_deBruijn64tab), ("nock/arrow.most", laid_nock_arrow_most), ("nock/arrow.measures", laid_nock_arrow_measures)], narrowed := true }
def ArrowGrowsUptoSaid : Prop := arrowGrowsUptoRow.holds Tryz.pinned (OpenSpec.upto arrowGrowsSpec)

/-- 'nocklaw01.ArrowBest', WHERE WHAT IT READS IS OF BULK AT MOST 1048576: true; the input reads as it did. -/
def arrowBestUptoRow : OpenClaim := { program := "ytedkbdkbbnemlaagreatdoor", sum := "a74e61d076d9f948da90a636e3fde4bba32ef7552eaea1d87ee825aed26e3cc5", func := "nock/nocklaw01.ArrowBest", spec := "arrowBest", inPlace := ["(*sync.WaitGroup).Add", "internal/race.ReleaseMerge", "internal/race.Disable", "internal/race.Enable", "internal/synctest.IsInBubble", "internal/synctest.Associate[sync.WaitGroup]", "sync.fatal", "sync/atomic.OrUint64", "sync/atomic.AddUint64", "internal/race.Read", "sync/atomic.LoadUint64", "sync/atomic.StoreUint64", "internal/synctest.Disassociate[sync.WaitGroup]", "sync.runtime_Semrelease", "(*sync.WaitGroup).Done", "(*sync.WaitGroup).Wait", "internal/race.Acquire", "internal/synctest.IsAssociated[sync.WaitGroup]", "sync/atomic.CompareAndSwapUint64", "internal/race.Write", "sync.runtime_SemacquireWaitGroup"], unfollowed := true, recurses := true, named := ["nock/arrow.measures", "nock/arrow.most", "math/bits.deBruijn32tab", "math/bits.deBruijn64tab"], plainKeys := false, leaving := true, apart := false, laid := [("math/bits.deBruijn32tab", laid_math_bits_deBruijn32tab), ("math/bits.deBruijn64tab", laid_math_bits_deBruijn64tab), ("nock/arrow.most", laid_nock_arrow_most), ("nock/arrow.measures", laid_nock_arrow_measures)], narrowed := true }
def ArrowBestUptoSaid : Prop := arrowBestUptoRow.holds Tryz.pinned (OpenSpec.upto arrowBestSpec)

/-- 'nocklaw01.ArrowSets', WHERE WHAT IT READS IS OF BULK AT MOST 1048576: true; the input reads as it did. -/
def arrowSetsUptoRow : OpenClaim := { program := "ytedkbdkbbnemlaagreatdoor", sum := "a74e61d076d9f948da90a636e3fde4bba32ef7552eaea1d87ee825aed26e3cc5", func := "nock/nocklaw01.ArrowSets", spec := "arrowSets", inPlace := ["(*sync.WaitGroup).Add", "internal/race.ReleaseMerge", "internal/race.Disable", "internal/race.Enable", "internal/synctest.IsInBubble", "internal/synctest.Associate[sync.WaitGroup]", "sync.fatal", "sync/atomic.OrUint64", "sync/atomic.AddUint64", "internal/race.Read", "sync/atomic.LoadUint64", "sync/atomic.StoreUint64", "internal/synctest.Disassociate[sync.WaitGroup]", "sync.runtime_Semrelease", "(*sync.WaitGroup).Done", "(*sync.WaitGroup).Wait", "internal/race.Acquire", "internal/synctest.IsAssociated[sync.WaitGroup]", "sync/atomic.CompareAndSwapUint64", "internal/race.Write", "sync.runtime_SemacquireWaitGroup"], unfollowed := true, recurses := true, named := ["nock/arrow.measures", "nock/arrow.most", "math/bits.deBruijn32tab", "math/bits.deBruijn64tab"], plainKeys := false, leaving := true, apart := false, laid := [("math/bits.deBruijn32tab", laid_math_bits_deBruijn32tab), ("math/bits.deBruijn64tab", laid_math_bits_deBruijn64tab), ("nock/arrow.most", laid_nock_arrow_most), ("nock/arrow.measures", laid_nock_arrow_measures)], narrowed := true }
def ArrowSetsUptoSaid : Prop := arrowSetsUptoRow.holds Tryz.pinned (OpenSpec.upto arrowSetsSpec)

/-- 'nocklaw01.ArrowShots', WHERE WHAT IT READS IS OF BULK AT MOST 1048576: true; the input reads as it did. -/
def arrowShotsUptoRow : OpenClaim := { program := "ytedkbdkbbnemlaagreatdoor", sum := "a74e61d076d9f948da90a636e3fde4bba32ef7552eaea1d87ee825aed26e3cc5", func := "nock/nocklaw01.ArrowShots", spec := "arrowShots", inPlace := ["(*sync.WaitGroup).Add", "internal/race.ReleaseMerge", "internal/race.Disable", "internal/race.Enable", "internal/synctest.IsInBubble", "internal/synctest.Associate[sync.WaitGroup]", "sync.fatal", "sync/atomic.OrUint64", "sync/atomic.AddUint64", "internal/race.Read", "sync/atomic.LoadUint64", "sync/atomic.StoreUint64", "internal/synctest.Disassociate[sync.WaitGroup]", "sync.runtime_Semrelease", "(*sync.WaitGroup).Done", "(*sync.WaitGroup).Wait", "internal/race.Acquire", "internal/synctest.IsAssociated[sync.WaitGroup]", "sync/atomic.CompareAndSwapUint64", "internal/race.Write", "sync.runtime_SemacquireWaitGroup"], unfollowed := true, recurses := true, named := ["nock/arrow.measures", "nock/arrow.most", "math/bits.deBruijn32tab", "math/bits.deBruijn64tab"], plainKeys := false, leaving := true, apart := false, laid := [("math/bits.deBruijn32tab", laid_math_bits_deBruijn32tab), ("math/bits.deBruijn64tab", laid_math_bits_deBruijn64tab), ("nock/arrow.most", laid_nock_arrow_most), ("nock/arrow.measures", laid_nock_arrow_measures)], narrowed := true }
def ArrowShotsUptoSaid : Prop := arrowShotsUptoRow.holds Tryz.pinned (OpenSpec.upto arrowShotsSpec)

/-- 'nocklaw01.ArrowListed', WHERE WHAT IT READS IS OF BULK AT MOST 1048576: true; the input reads as it did. -/
def arrowListedUptoRow : OpenClaim := { program := "ytedkbdkbbnemlaagreatdoor", sum := "a74e61d076d9f948da90a636e3fde4bba32ef7552eaea1d87ee825aed26e3cc5", func := "nock/nocklaw01.ArrowListed", spec := "arrowListed", inPlace := ["(*sync.WaitGroup).Add", "internal/race.ReleaseMerge", "internal/race.Disable", "internal/race.Enable", "internal/synctest.IsInBubble", "internal/synctest.Associate[sync.WaitGroup]", "sync.fatal", "sync/atomic.OrUint64", "sync/atomic.AddUint64", "internal/race.Read", "sync/atomic.LoadUint64", "sync/atomic.StoreUint64", "internal/synctest.Disassociate[sync.WaitGroup]", "sync.runtime_Semrelease", "(*sync.WaitGroup).Done", "(*sync.WaitGroup).Wait", "internal/race.Acquire", "internal/synctest.IsAssociated[sync.WaitGroup]", "sync/atomic.CompareAndSwapUint64", "internal/race.Write", "sync.runtime_SemacquireWaitGroup"], unfollowed := true, recurses := true, named := ["nock/arrow.measures", "nock/arrow.most", "math/bits.deBruijn32tab", "math/bits.deBruijn64tab"], plainKeys := false, leaving := true, apart := false, laid := [("math/bits.deBruijn32tab", laid_math_bits_deBruijn32tab), ("math/bits.deBruijn64tab", laid_math_bits_deBruijn64tab), ("nock/arrow.most", laid_nock_arrow_most), ("nock/arrow.measures", laid_nock_arrow_measures)], narrowed := true }
def ArrowListedUptoSaid : Prop := arrowListedUptoRow.holds Tryz.pinned (OpenSpec.upto arrowListedSpec)

/-- 'nocklaw01.ArrowReal', WHERE WHAT IT READS IS OF BULK AT MOST 1048576: true; the input reads as it did. -/
def arrowRealUptoRow : OpenClaim := { program := "ytedkbdkbbnemlaagreatdoor", sum := "a74e61d076d9f948da90a636e3fde4bba32ef7552eaea1d87ee825aed26e3cc5", func := "nock/nocklaw01.ArrowReal", spec := "arrowReal", inPlace := ["(*sync.WaitGroup).Add", "internal/race.ReleaseMerge", "internal/race.Disable", "internal/race.Enable", "internal/synctest.IsInBubble", "internal/synctest.Associate[sync.WaitGroup]", "sync.fatal", "sync/atomic.OrUint64", "sync/atomic.AddUint64", "internal/race.Read", "sync/atomic.LoadUint64", "sync/atomic.StoreUint64", "internal/synctest.Disassociate[sync.WaitGroup]", "sync.runtime_Semrelease", "(*sync.WaitGroup).Done", "(*sync.WaitGroup).Wait", "internal/race.Acquire", "internal/synctest.IsAssociated[sync.WaitGroup]", "sync/atomic.CompareAndSwapUint64", "internal/race.Write", "sync.runtime_SemacquireWaitGroup"], unfollowed := true, recurses := true, named := ["nock/arrow.measures", "nock/arrow.most", "math/bits.deBruijn32tab", "math/bits.deBruijn64tab"], plainKeys := false, leaving := true, apart := false, laid := [("math/bits.deBruijn32tab", laid_math_bits_deBruijn32tab), ("math/bits.deBruijn64tab", laid_math_bits_deBruijn64tab), ("nock/arrow.most", laid_nock_arrow_most), ("nock/arrow.measures", laid_nock_arrow_measures)], narrowed := true }
def ArrowRealUptoSaid : Prop := arrowRealUptoRow.holds Tryz.pinned (OpenSpec.upto arrowRealSpec)

/-- 'nocklaw01.ArrowClashes', WHERE WHAT IT READS IS OF BULK AT MOST 1048576: true; the input reads as it did. -/
def arrowClashesUptoRow : OpenClaim := { program := "ytedkbdkbbnemlaagreatdoor", sum := "a74e61d076d9f948da90a636e3fde4bba32ef7552eaea1d87ee825aed26e3cc5", func := "nock/nocklaw01.ArrowClashes", spec := "arrowClashes", inPlace := ["(*sync.WaitGroup).Add", "internal/race.ReleaseMerge", "internal/race.Disable", "internal/race.Enable", "internal/synctest.IsInBubble", "internal/synctest.Associate[sync.WaitGroup]", "sync.fatal", "sync/atomic.OrUint64", "sync/atomic.AddUint64", "internal/race.Read", "sync/atomic.LoadUint64", "sync/atomic.StoreUint64", "internal/synctest.Disassociate[sync.WaitGroup]", "sync.runtime_Semrelease", "(*sync.WaitGroup).Done", "(*sync.WaitGroup).Wait", "internal/race.Acquire", "internal/synctest.IsAssociated[sync.WaitGroup]", "sync/atomic.CompareAndSwapUint64", "internal/race.Write", "sync.runtime_SemacquireWaitGroup"], unfollowed := true, recurses := true, named := ["nock/arrow.measures", "nock/arrow.most", "math/bits.deBruijn32tab", "math/bits.deBruijn64tab"], plainKeys := false, leaving := true, apart := false, laid := [("math/bits.deBruijn32tab", laid_math_bits_deBruijn32tab), ("math/bits.deBruijn64tab", laid_math_bits_deBruijn64tab), ("nock/arrow.most", laid_nock_arrow_most), ("nock/arrow.measures", laid_nock_arrow_measures)], narrowed := true }
def ArrowClashesUptoSaid : Prop := arrowClashesUptoRow.holds Tryz.pinned (OpenSpec.upto arrowClashesSpec)

/-- 'nocklaw01.ArrowMeasures', WHERE WHAT IT READS IS OF BULK AT MOST 1048576: true; the input reads as it did. -/
def arrowMeasuresUptoRow : OpenClaim := { program := "ytedkbdkbbnemlaagreatdoor", sum := "a74e61d076d9f948da90a636e3fde4bba32ef7552eaea1d87ee825aed26e3cc5", func := "nock/nocklaw01.ArrowMeasures", spec := "arrowMeasures", inPlace := ["(*sync.WaitGroup).Add", "internal/race.ReleaseMerge", "internal/race.Disable", "internal/race.Enable", "internal/synctest.IsInBubble", "internal/synctest.Associate[sync.WaitGroup]", "sync.fatal", "sync/atomic.OrUint64", "sync/atomic.AddUint64", "internal/race.Read", "sync/atomic.LoadUint64", "sync/atomic.StoreUint64", "internal/synctest.Disassociate[sync.WaitGroup]", "sync.runtime_Semrelease", "(*sync.WaitGroup).Done", "(*sync.WaitGroup).Wait", "internal/race.Acquire", "internal/synctest.IsAssociated[sync.WaitGroup]", "sync/atomic.CompareAndSwapUint64", "internal/race.Write", "sync.runtime_SemacquireWaitGroup"], unfollowed := true, recurses := true, named := ["nock/arrow.measures", "nock/arrow.most", "math/bits.deBruijn32tab", "math/bits.deBruijn64tab"], plainKeys := false, leaving := true, apart := false, laid := [("math/bits.deBruijn32tab", laid_math_bits_deBruijn32tab), ("math/bits.deBruijn64tab", laid_math_bits_deBruijn64tab), ("nock/arrow.most", laid_nock_arrow_most), ("nock/arrow.measures", laid_nock_arrow_measures)], narrowed := true }
def ArrowMeasuresUptoSaid : Prop := arrowMeasuresUptoRow.holds Tryz.pinned (OpenSpec.upto arrowMeasuresSpec)

/-- 'nocklaw01.ArrowKnown', WHERE WHAT IT READS IS OF BULK AT MOST 1048576: true; the input reads as it did. -/
def arrowKnownUptoRow : OpenClaim := { program := "ytedkbdkbbnemlaagreatdoor", sum := "a74e61d076d9f948da90a636e3fde4bba32ef7552eaea1d87ee825aed26e3cc5", func := "nock/nocklaw01.ArrowKnown", spec := "arrowKnown", inPlace := ["(*sync.WaitGroup).Add", "internal/race.ReleaseMerge", "internal/race.Disable", "internal/race.Enable", "internal/synctest.IsInBubble", "internal/synctest.Associate[sync.WaitGroup]", "sync.fatal", "sync/atomic.OrUint64", "sync/atomic.AddUint64", "internal/race.Read", "sync/atomic.LoadUint64", "sync/atomic.StoreUint64", "internal/synctest.Disassociate[sync.WaitGroup]", "sync.runtime_Semrelease", "(*sync.WaitGroup).Done", "(*sync.WaitGroup).Wait", "internal/race.Acquire", "internal/synctest.IsAssociated[sync.WaitGroup]", "sync/atomic.CompareAndSwapUint64", "internal/race.Write", "sync.runtime_SemacquireWaitGroup"], unfollowed := true, recurses := true, named := ["nock/arrow.measures", "nock/arrow.most", "math/bits.deBruijn32tab", "math/bits.deBruijn64tab"], plainKeys := false, leaving := true, apart := false, laid := [("math/bits.deBruijn32tab", laid_math_bits_deBruijn32tab), ("math/bits.deBruijn64tab", laid_math_bits_deBruijn64tab), ("nock/arrow.most", laid_nock_arrow_most), ("nock/arrow.measures", laid_nock_arrow_measures)], narrowed := true }
def ArrowKnownUptoSaid : Prop := arrowKnownUptoRow.holds Tryz.pinned (OpenSpec.upto arrowKnownSpec)

/-- 'nocklaw01.ArrowStocks', WHERE WHAT IT READS IS OF BULK AT MOST 1048576: true; the input reads as it did. -/
def arrowStocksUptoRow : OpenClaim := { program := "ytedkbdkbbnemlaagreatdoor", sum := "a74e61d076d9f948da90a636e3fde4bba32ef7552eaea1d87ee825aed26e3cc5", func := "nock/nocklaw01.ArrowStocks", spec := "arrowStocks", inPlace := ["(*sync.WaitGroup).Add", "internal/race.ReleaseMerge", "internal/race.Disable", "internal/race.Enable", "internal/synctest.IsInBubble", "internal/synctest.Associate[sync.WaitGroup]", "sync.fatal", "sync/atomic.OrUint64", "sync/atomic.AddUint64", "internal/race.Read", "sync/atomic.LoadUint64", "sync/atomic.StoreUint64", "internal/synctest.Disassociate[sync.WaitGroup]", "sync.runtime_Semrelease", "(*sync.WaitGroup).Done", "(*sync.WaitGroup).Wait", "internal/race.Acquire", "internal/synctest.IsAssociated[sync.WaitGroup]", "sync/atomic.CompareAndSwapUint64", "internal/race.Write", "sync.runtime_SemacquireWaitGroup"], unfollowed := true, recurses := true, named := ["nock/arrow.measures", "nock/arrow.most", "math/bits.deBruijn32tab", "math/bits.deBruijn64tab"], plainKeys := false, leaving := true, apart := false, laid := [("math/bits.deBruijn32tab", laid_math_bits_deBruijn32tab), ("math/bits.deBruijn64tab", laid_math_bits_deBruijn64tab), ("nock/arrow.most", laid_nock_arrow_most), ("nock/arrow.measures", laid_nock_arrow_measures)], narrowed := true }
def ArrowStocksUptoSaid : Prop := arrowStocksUptoRow.holds Tryz.pinned (OpenSpec.upto arrowStocksSpec)

/-- 'nocklaw01.ArrowMarks', WHERE WHAT IT READS IS OF BULK AT MOST 1048576: true; the input reads as it did. -/
def arrowMarksUptoRow : OpenClaim := { program := "ytedkbdkbbnemlaagreatdoor", sum := "a74e61d076d9f948da90a636e3fde4bba32ef7552eaea1d87ee825aed26e3cc5", func := "nock/nocklaw01.ArrowMarks", spec := "arrowMarks", inPlace := ["(*sync.WaitGroup).Add", "internal/race.ReleaseMerge", "internal/race.Disable", "internal/race.Enable", "internal/synctest.IsInBubble", "internal/synctest.Associate[sync.WaitGroup]", "sync.fatal", "sync/atomic.OrUint64", "sync/atomic.AddUint64", "internal/race.Read", "sync/atomic.LoadUint64", "sync/atomic.StoreUint64", "internal/synctest.Disassociate[sync.WaitGroup]", "sync.runtime_Semrelease", "(*sync.WaitGroup).Done", "(*sync.WaitGroup).Wait", "internal/race.Acquire", "internal/synctest.IsAssociated[sync.WaitGroup]", "sync/atomic.CompareAndSwapUint64", "internal/race.Write", "sync.runtime_SemacquireWaitGroup"], unfollowed := true, recurses := true, named := ["nock/arrow.measures", "nock/arrow.most", "math/bits.deBruijn32tab", "math/bits.deBruijn64tab"], plainKeys := false, leaving := true, apart := false, laid := [("math/bits.deBruijn32tab", laid_math_bits_deBruijn32tab), ("math/bits.deBruijn64tab", laid_math_bits_deBruijn64tab), ("nock/arrow.most", laid_nock_arrow_most), ("nock/arrow.measures", laid_nock_arrow_measures)], narrowed := true }
def ArrowMarksUptoSaid : Prop := arrowMarksUptoRow.holds Tryz.pinned (OpenSpec.upto arrowMarksSpec)

/-- 'nocklaw01.ArrowOrder', WHERE WHAT IT READS IS OF BULK AT MOST 1048576: true; the input reads as it did. -/
def arrowOrderUptoRow : OpenClaim := { program := "ytedkbdkbbnemlaagreatdoor", sum := "a74e61d076d9f948da90a636e3fde4bba32ef7552eaea1d87ee825aed26e3cc5", func := "nock/nocklaw01.ArrowOrder", spec := "arrowOrder", inPlace := ["(*sync.WaitGroup).Add", "internal/race.ReleaseMerge", "internal/race.Disable", "internal/race.Enable", "internal/synctest.IsInBubble", "internal/synctest.Associate[sync.WaitGroup]", "sync.fatal", "sync/atomic.OrUint64", "sync/atomic.AddUint64", "internal/race.Read", "sync/atomic.LoadUint64", "sync/atomic.StoreUint64", "internal/synctest.Disassociate[sync.WaitGroup]", "sync.runtime_Semrelease", "(*sync.WaitGroup).Done", "(*sync.WaitGroup).Wait", "internal/race.Acquire", "internal/synctest.IsAssociated[sync.WaitGroup]", "sync/atomic.CompareAndSwapUint64", "internal/race.Write", "sync.runtime_SemacquireWaitGroup"], unfollowed := true, recurses := true, named := ["nock/arrow.measures", "nock/arrow.most", "math/bits.deBruijn32tab", "math/bits.deBruijn64tab"], plainKeys := false, leaving := true, apart := false, laid := [("math/bits.deBruijn32tab", laid_math_bits_deBruijn32tab), ("math/bits.deBruijn64tab", laid_math_bits_deBruijn64tab), ("nock/arrow.most", laid_nock_arrow_most), ("nock/arrow.measures", laid_nock_arrow_measures)], narrowed := true }
def ArrowOrderUptoSaid : Prop := arrowOrderUptoRow.holds Tryz.pinned (OpenSpec.upto arrowOrderSpec)

end Rows
end Go.Proofs.YtedkbdkbbnemlaaGreatDoor
