/-
  No cell of these rows narrows 'for every input' (looked for: loops, veiled, ifaces, maps, wideKeys, modest, calm, conditions, laid).
  DERIVED. THE GIVEN ROWS OF THIS SEAT. 7 by the template 'for every input the law returns true; each argument reads behind the call as it read before'; 0 by the template 'total and deterministic' (their statements: YtbnobghgnbockaaGreatTotals.lean).
  GIVEN WITH THE SEED: the statements are not yours to turn. If you find one false, say at which input.
  Laid BY PROGRAM, IN A SANDBOX (cutbox-rows.mjs): the forced cells as the released guide's own fill.sh prints them over the translation 1afc043e7c16132a… (all of the seat's roots in one cut). By AI agents, Wed Nov 11 2026. No macro, syntax, notation, axiom, sorry.
-/
import Derived.Test.YtbnobghgnbockaaGreatChecked
import GoSem.Claim
import GoSem.ClaimJoined
import GoSem.ClaimMapViews
import Derived.JoinedTies
import Derived.KernelRfl
namespace Go.Proofs.YtbnobghgnbockaaGreat
/- THE CELL 'sum', in the pinned program and in every row, IS THE sha256 OF THE DUMP (.gsa) THAT YtbnobghgnbockaaGreatProg.lean LOADS. Nothing in Lean hashes anything: it is a label: what it is worth is what the hold of that sum in a sandbox is worth. -/
noncomputable def Tryz.pinned : Pinned := { name := "ytbnobghgnbockaagreat", sum := "1afc043e7c16132a489e005cd1be09e4e1466c372be4ba469e21db7298cd3930", checked := Tryz.checked }
namespace Rows
def none {H : Type} : Left H := { results := [], args := [] }

/-- 'sherdlaw24.FixtureSets': WHATEVER THE INPUT: true; the input reads as it did. -/
def fixtureSetsSpec : ChangeSpec := { name := "fixtureSets", fn := fun _ => fun
  | [d1, d2] => { results := [.lit (.bool true)], args := [d1, d2] }
  | _ => none }
def fixtureSetsRow : OpenClaim := { program := "ytbnobghgnbockaagreat", sum := "1afc043e7c16132a489e005cd1be09e4e1466c372be4ba469e21db7298cd3930", func := "sherd/sherdlaw24.FixtureSets", spec := "fixtureSets", inPlace := ["(*sync.WaitGroup).Add", "internal/race.ReleaseMerge", "internal/race.Disable", "internal/race.Enable", "internal/synctest.IsInBubble", "internal/synctest.Associate[sync.WaitGroup]", "sync.fatal", "sync/atomic.OrUint64", "sync/atomic.AddUint64", "internal/race.Read", "sync/atomic.LoadUint64", "sync/atomic.StoreUint64", "internal/synctest.Disassociate[sync.WaitGroup]", "sync.runtime_Semrelease", "(*sync.WaitGroup).Done", "(*sync.WaitGroup).Wait", "internal/race.Acquire", "internal/synctest.IsAssociated[sync.WaitGroup]", "sync/atomic.CompareAndSwapUint64", "internal/race.Write", "sync.runtime_SemacquireWaitGroup"], unfollowed := true, recurses := true, leaving := true, apart := false }
def FixtureSetsSaid : Prop := fixtureSetsRow.holds Tryz.pinned (OpenSpec.ofChange fixtureSetsSpec)

/-- ITS FALSE NEIGHBOUR: 'it returns false'. Refute it at one input. -/
def fixtureSetsWrong : ChangeSpec := { name := "fixtureSets", fn := fun _ => fun
  | [d1, d2] => { results := [.lit (.bool false)], args := [d1, d2] }
  | _ => none }
def FixtureSetsWrongFalsely : Prop := fixtureSetsRow.holds Tryz.pinned (OpenSpec.ofChange fixtureSetsWrong)

/-- 'sherdlaw24.FixtureChooses': WHATEVER THE INPUT: true; the input reads as it did. -/
def fixtureChoosesSpec : ChangeSpec := { name := "fixtureChooses", fn := fun _ => fun
  | [d1, d2, d3] => { results := [.lit (.bool true)], args := [d1, d2, d3] }
  | _ => none }
def fixtureChoosesRow : OpenClaim := { program := "ytbnobghgnbockaagreat", sum := "1afc043e7c16132a489e005cd1be09e4e1466c372be4ba469e21db7298cd3930", func := "sherd/sherdlaw24.FixtureChooses", spec := "fixtureChooses", inPlace := ["(*sync.WaitGroup).Add", "internal/race.ReleaseMerge", "internal/race.Disable", "internal/race.Enable", "internal/synctest.IsInBubble", "internal/synctest.Associate[sync.WaitGroup]", "sync.fatal", "sync/atomic.OrUint64", "sync/atomic.AddUint64", "internal/race.Read", "sync/atomic.LoadUint64", "sync/atomic.StoreUint64", "internal/synctest.Disassociate[sync.WaitGroup]", "sync.runtime_Semrelease", "(*sync.WaitGroup).Done", "(*sync.WaitGroup).Wait", "internal/race.Acquire", "internal/synctest.IsAssociated[sync.WaitGroup]", "sync/atomic.CompareAndSwapUint64", "internal/race.Write", "sync.runtime_SemacquireWaitGroup"], unfollowed := true, recurses := true, leaving := true, apart := false }
def FixtureChoosesSaid : Prop := fixtureChoosesRow.holds Tryz.pinned (OpenSpec.ofChange fixtureChoosesSpec)

/-- ITS FALSE NEIGHBOUR: 'it returns false'. Refute it at one input. -/
def fixtureChoosesWrong : ChangeSpec := { name := "fixtureChooses", fn := fun _ => fun
  | [d1, d2, d3] => { results := [.lit (.bool false)], args := [d1, d2, d3] }
  | _ => none }
def FixtureChoosesWrongFalsely : Prop := fixtureChoosesRow.holds Tryz.pinned (OpenSpec.ofChange fixtureChoosesWrong)

/-- 'sherdlaw24.FixtureErrors': WHATEVER THE INPUT: true; the input reads as it did. -/
def fixtureErrorsSpec : ChangeSpec := { name := "fixtureErrors", fn := fun _ => fun
  | [d1, d2, d3, d4, d5] => { results := [.lit (.bool true)], args := [d1, d2, d3, d4, d5] }
  | _ => none }
def fixtureErrorsRow : OpenClaim := { program := "ytbnobghgnbockaagreat", sum := "1afc043e7c16132a489e005cd1be09e4e1466c372be4ba469e21db7298cd3930", func := "sherd/sherdlaw24.FixtureErrors", spec := "fixtureErrors", inPlace := ["(*sync.WaitGroup).Add", "internal/race.ReleaseMerge", "internal/race.Disable", "internal/race.Enable", "internal/synctest.IsInBubble", "internal/synctest.Associate[sync.WaitGroup]", "sync.fatal", "sync/atomic.OrUint64", "sync/atomic.AddUint64", "internal/race.Read", "sync/atomic.LoadUint64", "sync/atomic.StoreUint64", "internal/synctest.Disassociate[sync.WaitGroup]", "sync.runtime_Semrelease", "(*sync.WaitGroup).Done", "(*sync.WaitGroup).Wait", "internal/race.Acquire", "internal/synctest.IsAssociated[sync.WaitGroup]", "sync/atomic.CompareAndSwapUint64", "internal/race.Write", "sync.runtime_SemacquireWaitGroup"], unfollowed := true, recurses := true, leaving := true, apart := false }
def FixtureErrorsSaid : Prop := fixtureErrorsRow.holds Tryz.pinned (OpenSpec.ofChange fixtureErrorsSpec)

/-- ITS FALSE NEIGHBOUR: 'it returns false'. Refute it at one input. -/
def fixtureErrorsWrong : ChangeSpec := { name := "fixtureErrors", fn := fun _ => fun
  | [d1, d2, d3, d4, d5] => { results := [.lit (.bool false)], args := [d1, d2, d3, d4, d5] }
  | _ => none }
def FixtureErrorsWrongFalsely : Prop := fixtureErrorsRow.holds Tryz.pinned (OpenSpec.ofChange fixtureErrorsWrong)

/-- 'sherdlaw24.FixtureChecks': WHATEVER THE INPUT: true; the input reads as it did. -/
def fixtureChecksSpec : ChangeSpec := { name := "fixtureChecks", fn := fun _ => fun
  | [d1, d2, d3, d4, d5] => { results := [.lit (.bool true)], args := [d1, d2, d3, d4, d5] }
  | _ => none }
def fixtureChecksRow : OpenClaim := { program := "ytbnobghgnbockaagreat", sum := "1afc043e7c16132a489e005cd1be09e4e1466c372be4ba469e21db7298cd3930", func := "sherd/sherdlaw24.FixtureChecks", spec := "fixtureChecks", inPlace := ["(*sync.WaitGroup).Add", "internal/race.ReleaseMerge", "internal/race.Disable", "internal/race.Enable", "internal/synctest.IsInBubble", "internal/synctest.Associate[sync.WaitGroup]", "sync.fatal", "sync/atomic.OrUint64", "sync/atomic.AddUint64", "internal/race.Read", "sync/atomic.LoadUint64", "sync/atomic.StoreUint64", "internal/synctest.Disassociate[sync.WaitGroup]", "sync.runtime_Semrelease", "(*sync.WaitGroup).Done", "(*sync.WaitGroup).Wait", "internal/race.Acquire", "internal/synctest.IsAssociated[sync.WaitGroup]", "sync/atomic.CompareAndSwapUint64", "internal/race.Write", "sync.runtime_SemacquireWaitGroup"], unfollowed := true, recurses := true, leaving := true, apart := false }
def FixtureChecksSaid : Prop := fixtureChecksRow.holds Tryz.pinned (OpenSpec.ofChange fixtureChecksSpec)

/-- ITS FALSE NEIGHBOUR: 'it returns false'. Refute it at one input. -/
def fixtureChecksWrong : ChangeSpec := { name := "fixtureChecks", fn := fun _ => fun
  | [d1, d2, d3, d4, d5] => { results := [.lit (.bool false)], args := [d1, d2, d3, d4, d5] }
  | _ => none }
def FixtureChecksWrongFalsely : Prop := fixtureChecksRow.holds Tryz.pinned (OpenSpec.ofChange fixtureChecksWrong)

/-- 'sherdlaw24.FixtureFewest': WHATEVER THE INPUT: true; the input reads as it did. -/
def fixtureFewestSpec : ChangeSpec := { name := "fixtureFewest", fn := fun _ => fun
  | [d1, d2, d3] => { results := [.lit (.bool true)], args := [d1, d2, d3] }
  | _ => none }
def fixtureFewestRow : OpenClaim := { program := "ytbnobghgnbockaagreat", sum := "1afc043e7c16132a489e005cd1be09e4e1466c372be4ba469e21db7298cd3930", func := "sherd/sherdlaw24.FixtureFewest", spec := "fixtureFewest", inPlace := ["(*sync.WaitGroup).Add", "internal/race.ReleaseMerge", "internal/race.Disable", "internal/race.Enable", "internal/synctest.IsInBubble", "internal/synctest.Associate[sync.WaitGroup]", "sync.fatal", "sync/atomic.OrUint64", "sync/atomic.AddUint64", "internal/race.Read", "sync/atomic.LoadUint64", "sync/atomic.StoreUint64", "internal/synctest.Disassociate[sync.WaitGroup]", "sync.runtime_Semrelease", "(*sync.WaitGroup).Done", "(*sync.WaitGroup).Wait", "internal/race.Acquire", "internal/synctest.IsAssociated[sync.WaitGroup]", "sync/atomic.CompareAndSwapUint64", "internal/race.Write", "sync.runtime_SemacquireWaitGroup"], unfollowed := true, recurses := true, leaving := true, apart := false }
def FixtureFewestSaid : Prop := fixtureFewestRow.holds Tryz.pinned (OpenSpec.ofChange fixtureFewestSpec)

/-- ITS FALSE NEIGHBOUR: 'it returns false'. Refute it at one input. -/
def fixtureFewestWrong : ChangeSpec := { name := "fixtureFewest", fn := fun _ => fun
  | [d1, d2, d3] => { results := [.lit (.bool false)], args := [d1, d2, d3] }
  | _ => none }
def FixtureFewestWrongFalsely : Prop := fixtureFewestRow.holds Tryz.pinned (OpenSpec.ofChange fixtureFewestWrong)

/-- 'sherdlaw24.FixtureMore': WHATEVER THE INPUT: true; the input reads as it did. -/
def fixtureMoreSpec : ChangeSpec := { name := "fixtureMore", fn := fun _ => fun
  | [d1, d2, d3, d4] => { results := [.lit (.bool true)], args := [d1, d2, d3, d4] }
  | _ => none }
def fixtureMoreRow : OpenClaim := { program := "ytbnobghgnbockaagreat", sum := "1afc043e7c16132a489e005cd1be09e4e1466c372be4ba469e21db7298cd3930", func := "sherd/sherdlaw24.FixtureMore", spec := "fixtureMore", inPlace := ["(*sync.WaitGroup).Add", "internal/race.ReleaseMerge", "internal/race.Disable", "internal/race.Enable", "internal/synctest.IsInBubble", "internal/synctest.Associate[sync.WaitGroup]", "sync.fatal", "sync/atomic.OrUint64", "sync/atomic.AddUint64", "internal/race.Read", "sync/atomic.LoadUint64", "sync/atomic.StoreUint64", "internal/synctest.Disassociate[sync.WaitGroup]", "sync.runtime_Semrelease", "(*sync.WaitGroup).Done", "(*sync.WaitGroup).Wait", "internal/race.Acquire", "internal/synctest.IsAssociated[sync.WaitGroup]", "sync/atomic.CompareAndSwapUint64", "internal/race.Write", "sync.runtime_SemacquireWaitGroup"], unfollowed := true, recurses := true, leaving := true, apart := false }
def FixtureMoreSaid : Prop := fixtureMoreRow.holds Tryz.pinned (OpenSpec.ofChange fixtureMoreSpec)

/-- ITS FALSE NEIGHBOUR: 'it returns false'. Refute it at one input. -/
def fixtureMoreWrong : ChangeSpec := { name := "fixtureMore", fn := fun _ => fun
  | [d1, d2, d3, d4] => { results := [.lit (.bool false)], args := [d1, d2, d3, d4] }
  | _ => none }
def FixtureMoreWrongFalsely : Prop := fixtureMoreRow.holds Tryz.pinned (OpenSpec.ofChange fixtureMoreWrong)

/-- 'sherdlaw24.FixtureScaled': WHATEVER THE INPUT: true; the input reads as it did. -/
def fixtureScaledSpec : ChangeSpec := { name := "fixtureScaled", fn := fun _ => fun
  | [d1, d2, d3, d4, d5, d6] => { results := [.lit (.bool true)], args := [d1, d2, d3, d4, d5, d6] }
  | _ => none }
def fixtureScaledRow : OpenClaim := { program := "ytbnobghgnbockaagreat", sum := "1afc043e7c16132a489e005cd1be09e4e1466c372be4ba469e21db7298cd3930", func := "sherd/sherdlaw24.FixtureScaled", spec := "fixtureScaled", inPlace := ["(*sync.WaitGroup).Add", "internal/race.ReleaseMerge", "internal/race.Disable", "internal/race.Enable", "internal/synctest.IsInBubble", "internal/synctest.Associate[sync.WaitGroup]", "sync.fatal", "sync/atomic.OrUint64", "sync/atomic.AddUint64", "internal/race.Read", "sync/atomic.LoadUint64", "sync/atomic.StoreUint64", "internal/synctest.Disassociate[sync.WaitGroup]", "sync.runtime_Semrelease", "(*sync.WaitGroup).Done", "(*sync.WaitGroup).Wait", "internal/race.Acquire", "internal/synctest.IsAssociated[sync.WaitGroup]", "sync/atomic.CompareAndSwapUint64", "internal/race.Write", "sync.runtime_SemacquireWaitGroup"], unfollowed := true, recurses := true, leaving := true, apart := false }
def FixtureScaledSaid : Prop := fixtureScaledRow.holds Tryz.pinned (OpenSpec.ofChange fixtureScaledSpec)

/-- ITS FALSE NEIGHBOUR: 'it returns false'. Refute it at one input. -/
def fixtureScaledWrong : ChangeSpec := { name := "fixtureScaled", fn := fun _ => fun
  | [d1, d2, d3, d4, d5, d6] => { results := [.lit (.bool false)], args := [d1, d2, d3, d4, d5, d6] }
  | _ => none }
def FixtureScaledWrongFalsely : Prop := fixtureScaledRow.holds Tryz.pinned (OpenSpec.ofChange fixtureScaledWrong)

/- THE SECOND FORM. 'bulk': how many values and letters a reading holds, each counted each time it is reached (what is shared counts as often as it is met; a slice's spare places count too). A statement '..UptoSaid' is the law's where the arguments, and the package variables that the reading takes, are together of bulk at most 1048576: NARROWER than '..Said'. Prove '..Said' where nothing that the law and all that it calls make is longer than what came in: it says more and counts as full. Else prove '..UptoSaid'. A law counts once. -/
mutual
def uptoBulk {H : Type} : DataW H → Nat
  | .lit (.string bytes) => bytes.length + 1
  | .lit _ => 1
  | .nil => 1
  | .ptr d => uptoBulk d + 1
  | .slice elems spare => uptoBulkAll elems + uptoBulkAll spare + 1
  | .agg parts => uptoBulkAll parts + 1
  | .iface _ d => uptoBulk d + 1
  | .map entries => uptoBulkEntries entries + 1
  | .held _ => 1
def uptoBulkAll {H : Type} : List (DataW H) → Nat
  | [] => 0
  | d :: r => uptoBulk d + uptoBulkAll r
def uptoBulkEntries {H : Type} : List (Lit × DataW H) → Nat
  | [] => 0
  | x :: r => uptoBulkEntry x + uptoBulkEntries r
def uptoBulkEntry {H : Type} : Lit × DataW H → Nat
  | (.string bytes, d) => bytes.length + uptoBulk d + 1
  | (_, d) => uptoBulk d + 1
 end
def uptoSmall : (H : Type) → List (DataW H) → Bool := fun _ ds => decide (uptoBulkAll ds ≤ 1048576)
def OpenSpec.upto (s : _root_.Go.ChangeSpec) : _root_.Go.OpenSpec := { _root_.Go.OpenSpec.ofChange s with cond := some uptoSmall }

/-- 'sherdlaw24.FixtureSets', WHERE WHAT IT READS IS OF BULK AT MOST 1048576: true; the input reads as it did. -/
def fixtureSetsUptoRow : OpenClaim := { program := "ytbnobghgnbockaagreat", sum := "1afc043e7c16132a489e005cd1be09e4e1466c372be4ba469e21db7298cd3930", func := "sherd/sherdlaw24.FixtureSets", spec := "fixtureSets", inPlace := ["(*sync.WaitGroup).Add", "internal/race.ReleaseMerge", "internal/race.Disable", "internal/race.Enable", "internal/synctest.IsInBubble", "internal/synctest.Associate[sync.WaitGroup]", "sync.fatal", "sync/atomic.OrUint64", "sync/atomic.AddUint64", "internal/race.Read", "sync/atomic.LoadUint64", "sync/atomic.StoreUint64", "internal/synctest.Disassociate[sync.WaitGroup]", "sync.runtime_Semrelease", "(*sync.WaitGroup).Done", "(*sync.WaitGroup).Wait", "internal/race.Acquire", "internal/synctest.IsAssociated[sync.WaitGroup]", "sync/atomic.CompareAndSwapUint64", "internal/race.Write", "sync.runtime_SemacquireWaitGroup"], unfollowed := true, recurses := true, leaving := true, apart := false, narrowed := true }
def FixtureSetsUptoSaid : Prop := fixtureSetsUptoRow.holds Tryz.pinned (OpenSpec.upto fixtureSetsSpec)

/-- 'sherdlaw24.FixtureChooses', WHERE WHAT IT READS IS OF BULK AT MOST 1048576: true; the input reads as it did. -/
def fixtureChoosesUptoRow : OpenClaim := { program := "ytbnobghgnbockaagreat", sum := "1afc043e7c16132a489e005cd1be09e4e1466c372be4ba469e21db7298cd3930", func := "sherd/sherdlaw24.FixtureChooses", spec := "fixtureChooses", inPlace := ["(*sync.WaitGroup).Add", "internal/race.ReleaseMerge", "internal/race.Disable", "internal/race.Enable", "internal/synctest.IsInBubble", "internal/synctest.Associate[sync.WaitGroup]", "sync.fatal", "sync/atomic.OrUint64", "sync/atomic.AddUint64", "internal/race.Read", "sync/atomic.LoadUint64", "sync/atomic.StoreUint64", "internal/synctest.Disassociate[sync.WaitGroup]", "sync.runtime_Semrelease", "(*sync.WaitGroup).Done", "(*sync.WaitGroup).Wait", "internal/race.Acquire", "internal/synctest.IsAssociated[sync.WaitGroup]", "sync/atomic.CompareAndSwapUint64", "internal/race.Write", "sync.runtime_SemacquireWaitGroup"], unfollowed := true, recurses := true, leaving := true, apart := false, narrowed := true }
def FixtureChoosesUptoSaid : Prop := fixtureChoosesUptoRow.holds Tryz.pinned (OpenSpec.upto fixtureChoosesSpec)

/-- 'sherdlaw24.FixtureErrors', WHERE WHAT IT READS IS OF BULK AT MOST 1048576: true; the input reads as it did. -/
def fixtureErrorsUptoRow : OpenClaim := { program := "ytbnobghgnbockaagreat", sum := "1afc043e7c16132a489e005cd1be09e4e1466c372be4ba469e21db7298cd3930", func := "sherd/sherdlaw24.FixtureErrors", spec := "fixtureErrors", inPlace := ["(*sync.WaitGroup).Add", "internal/race.ReleaseMerge", "internal/race.Disable", "internal/race.Enable", "internal/synctest.IsInBubble", "internal/synctest.Associate[sync.WaitGroup]", "sync.fatal", "sync/atomic.OrUint64", "sync/atomic.AddUint64", "internal/race.Read", "sync/atomic.LoadUint64", "sync/atomic.StoreUint64", "internal/synctest.Disassociate[sync.WaitGroup]", "sync.runtime_Semrelease", "(*sync.WaitGroup).Done", "(*sync.WaitGroup).Wait", "internal/race.Acquire", "internal/synctest.IsAssociated[sync.WaitGroup]", "sync/atomic.CompareAndSwapUint64", "internal/race.Write", "sync.runtime_SemacquireWaitGroup"], unfollowed := true, recurses := true, leaving := true, apart := false, narrowed := true }
def FixtureErrorsUptoSaid : Prop := fixtureErrorsUptoRow.holds Tryz.pinned (OpenSpec.upto fixtureErrorsSpec)

/-- 'sherdlaw24.FixtureChecks', WHERE WHAT IT READS IS OF BULK AT MOST 1048576: true; the input reads as it did. -/
def fixtureChecksUptoRow : OpenClaim := { program := "ytbnobghgnbockaagreat", sum := "1afc043e7c16132a489e005cd1be09e4e1466c372be4ba469e21db7298cd3930", func := "sherd/sherdlaw24.FixtureChecks", spec := "fixtureChecks", inPlace := ["(*sync.WaitGroup).Add", "internal/race.ReleaseMerge", "internal/race.Disable", "internal/race.Enable", "internal/synctest.IsInBubble", "internal/synctest.Associate[sync.WaitGroup]", "sync.fatal", "sync/atomic.OrUint64", "sync/atomic.AddUint64", "internal/race.Read", "sync/atomic.LoadUint64", "sync/atomic.StoreUint64", "internal/synctest.Disassociate[sync.WaitGroup]", "sync.runtime_Semrelease", "(*sync.WaitGroup).Done", "(*sync.WaitGroup).Wait", "internal/race.Acquire", "internal/synctest.IsAssociated[sync.WaitGroup]", "sync/atomic.CompareAndSwapUint64", "internal/race.Write", "sync.runtime_SemacquireWaitGroup"], unfollowed := true, recurses := true, leaving := true, apart := false, narrowed := true }
def FixtureChecksUptoSaid : Prop := fixtureChecksUptoRow.holds Tryz.pinned (OpenSpec.upto fixtureChecksSpec)

/-- 'sherdlaw24.FixtureFewest', WHERE WHAT IT READS IS OF BULK AT MOST 1048576: true; the input reads as it did. -/
def fixtureFewestUptoRow : OpenClaim := { program := "ytbnobghgnbockaagreat", sum := "1afc043e7c16132a489e005cd1be09e4e1466c372be4ba469e21db7298cd3930", func := "sherd/sherdlaw24.FixtureFewest", spec := "fixtureFewest", inPlace := ["(*sync.WaitGroup).Add", "internal/race.ReleaseMerge", "internal/race.Disable", "internal/race.Enable", "internal/synctest.IsInBubble", "internal/synctest.Associate[sync.WaitGroup]", "sync.fatal", "sync/atomic.OrUint64", "sync/atomic.AddUint64", "internal/race.Read", "sync/atomic.LoadUint64", "sync/atomic.StoreUint64", "internal/synctest.Disassociate[sync.WaitGroup]", "sync.runtime_Semrelease", "(*sync.WaitGroup).Done", "(*sync.WaitGroup).Wait", "internal/race.Acquire", "internal/synctest.IsAssociated[sync.WaitGroup]", "sync/atomic.CompareAndSwapUint64", "internal/race.Write", "sync.runtime_SemacquireWaitGroup"], unfollowed := true, recurses := true, leaving := true, apart := false, narrowed := true }
def FixtureFewestUptoSaid : Prop := fixtureFewestUptoRow.holds Tryz.pinned (OpenSpec.upto fixtureFewestSpec)

/-- 'sherdlaw24.FixtureMore', WHERE WHAT IT READS IS OF BULK AT MOST 1048576: true; the input reads as it did. -/
def fixtureMoreUptoRow : OpenClaim := { program := "ytbnobghgnbockaagreat", sum := "1afc043e7c16132a489e005cd1be09e4e1466c372be4ba469e21db7298cd3930", func := "sherd/sherdlaw24.FixtureMore", spec := "fixtureMore", inPlace := ["(*sync.WaitGroup).Add", "internal/race.ReleaseMerge", "internal/race.Disable", "internal/race.Enable", "internal/synctest.IsInBubble", "internal/synctest.Associate[sync.WaitGroup]", "sync.fatal", "sync/atomic.OrUint64", "sync/atomic.AddUint64", "internal/race.Read", "sync/atomic.LoadUint64", "sync/atomic.StoreUint64", "internal/synctest.Disassociate[sync.WaitGroup]", "sync.runtime_Semrelease", "(*sync.WaitGroup).Done", "(*sync.WaitGroup).Wait", "internal/race.Acquire", "internal/synctest.IsAssociated[sync.WaitGroup]", "sync/atomic.CompareAndSwapUint64", "internal/race.Write", "sync.runtime_SemacquireWaitGroup"], unfollowed := true, recurses := true, leaving := true, apart := false, narrowed := true }
def FixtureMoreUptoSaid : Prop := fixtureMoreUptoRow.holds Tryz.pinned (OpenSpec.upto fixtureMoreSpec)

/-- 'sherdlaw24.FixtureScaled', WHERE WHAT IT READS IS OF BULK AT MOST 1048576: true; the input reads as it did. -/
def fixtureScaledUptoRow : OpenClaim := { program := "ytbnobghgnbockaagreat", sum := "1afc043e7c16132a489e005cd1be09e4e1466c372be4ba469e21db7298cd3930", func := "sherd/sherdlaw24.FixtureScaled", spec := "fixtureScaled", inPlace := ["(*sync.WaitGroup).Add", "internal/race.ReleaseMerge", "internal/race.Disable", "internal/race.Enable", "internal/synctest.IsInBubble", "internal/synctest.Associate[sync.WaitGroup]", "sync.fatal", "sync/atomic.OrUint64", "sync/atomic.AddUint64", "internal/race.Read", "sync/atomic.LoadUint64", "sync/atomic.StoreUint64", "internal/synctest.Disassociate[sync.WaitGroup]", "sync.runtime_Semrelease", "(*sync.WaitGroup).Done", "(*sync.WaitGroup).Wait", "internal/race.Acquire", "internal/synctest.IsAssociated[sync.WaitGroup]", "sync/atomic.CompareAndSwapUint64", "internal/race.Write", "sync.runtime_SemacquireWaitGroup"], unfollowed := true, recurses := true, leaving := true, apart := false, narrowed := true }
def FixtureScaledUptoSaid : Prop := fixtureScaledUptoRow.holds Tryz.pinned (OpenSpec.upto fixtureScaledSpec)

end Rows
end Go.Proofs.YtbnobghgnbockaaGreat
