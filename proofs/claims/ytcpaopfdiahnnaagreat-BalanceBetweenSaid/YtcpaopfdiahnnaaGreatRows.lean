/-
  No cell of these rows narrows 'for every input' (looked for: loops, veiled, ifaces, maps, wideKeys, modest, calm, conditions, laid).
  DERIVED. THE GIVEN ROWS OF THIS SEAT. 8 by the template 'for every input the law returns true; each argument reads behind the call as it read before'; 0 by the template 'total and deterministic' (their statements: YtcpaopfdiahnnaaGreatTotals.lean).
  GIVEN WITH THE SEED: the statements are not yours to turn. If you find one false, say at which input.
  Laid BY PROGRAM, IN A SANDBOX (cutbox-rows.mjs): the forced cells as the released guide's own fill.sh prints them over the translation 9e0e22b44747f7a9… (all of the seat's roots in one cut). By AI agents, Wed Nov 11 2026. No macro, syntax, notation, axiom, sorry.
-/
import Derived.Test.YtcpaopfdiahnnaaGreatChecked
import GoSem.Claim
import GoSem.ClaimJoined
import GoSem.ClaimMapViews
import Derived.JoinedTies
import Derived.KernelRfl
namespace Go.Proofs.YtcpaopfdiahnnaaGreat
/- THE CELL 'sum', in the pinned program and in every row, IS THE sha256 OF THE DUMP (.gsa) THAT YtcpaopfdiahnnaaGreatProg.lean LOADS. Nothing in Lean hashes anything: it is a label: what it is worth is what the hold of that sum in a sandbox is worth. -/
noncomputable def Tryz.pinned : Pinned := { name := "ytcpaopfdiahnnaagreat", sum := "9e0e22b44747f7a98e5face231dd625f81500ae48e75de578e28c17cd372ec58", checked := Tryz.checked }
namespace Rows
def none {H : Type} : Left H := { results := [], args := [] }

/-- 'sherdlaw22.BalanceProblem': WHATEVER THE INPUT: true; the input reads as it did. -/
def balanceProblemSpec : ChangeSpec := { name := "balanceProblem", fn := fun _ => fun
  | [d1, d2, d3, d4, d5, d6] => { results := [.lit (.bool true)], args := [d1, d2, d3, d4, d5, d6] }
  | _ => none }
def balanceProblemRow : OpenClaim := { program := "ytcpaopfdiahnnaagreat", sum := "9e0e22b44747f7a98e5face231dd625f81500ae48e75de578e28c17cd372ec58", func := "sherd/sherdlaw22.BalanceProblem", spec := "balanceProblem", inPlace := ["(*sync.WaitGroup).Add", "internal/race.ReleaseMerge", "internal/race.Disable", "internal/race.Enable", "internal/synctest.IsInBubble", "internal/synctest.Associate[sync.WaitGroup]", "sync.fatal", "sync/atomic.OrUint64", "sync/atomic.AddUint64", "internal/race.Read", "sync/atomic.LoadUint64", "sync/atomic.StoreUint64", "internal/synctest.Disassociate[sync.WaitGroup]", "sync.runtime_Semrelease", "(*sync.WaitGroup).Done", "(*sync.WaitGroup).Wait", "internal/race.Acquire", "internal/synctest.IsAssociated[sync.WaitGroup]", "sync/atomic.CompareAndSwapUint64", "internal/race.Write", "sync.runtime_SemacquireWaitGroup"], unfollowed := true, recurses := true, leaving := true, apart := false }
def BalanceProblemSaid : Prop := balanceProblemRow.holds Tryz.pinned (OpenSpec.ofChange balanceProblemSpec)

/-- ITS FALSE NEIGHBOUR: 'it returns false'. Refute it at one input. -/
def balanceProblemWrong : ChangeSpec := { name := "balanceProblem", fn := fun _ => fun
  | [d1, d2, d3, d4, d5, d6] => { results := [.lit (.bool false)], args := [d1, d2, d3, d4, d5, d6] }
  | _ => none }
def BalanceProblemWrongFalsely : Prop := balanceProblemRow.holds Tryz.pinned (OpenSpec.ofChange balanceProblemWrong)

/-- 'sherdlaw22.BalanceDecides': WHATEVER THE INPUT: true; the input reads as it did. -/
def balanceDecidesSpec : ChangeSpec := { name := "balanceDecides", fn := fun _ => fun
  | [d1, d2, d3] => { results := [.lit (.bool true)], args := [d1, d2, d3] }
  | _ => none }
def balanceDecidesRow : OpenClaim := { program := "ytcpaopfdiahnnaagreat", sum := "9e0e22b44747f7a98e5face231dd625f81500ae48e75de578e28c17cd372ec58", func := "sherd/sherdlaw22.BalanceDecides", spec := "balanceDecides", inPlace := ["(*sync.WaitGroup).Add", "internal/race.ReleaseMerge", "internal/race.Disable", "internal/race.Enable", "internal/synctest.IsInBubble", "internal/synctest.Associate[sync.WaitGroup]", "sync.fatal", "sync/atomic.OrUint64", "sync/atomic.AddUint64", "internal/race.Read", "sync/atomic.LoadUint64", "sync/atomic.StoreUint64", "internal/synctest.Disassociate[sync.WaitGroup]", "sync.runtime_Semrelease", "(*sync.WaitGroup).Done", "(*sync.WaitGroup).Wait", "internal/race.Acquire", "internal/synctest.IsAssociated[sync.WaitGroup]", "sync/atomic.CompareAndSwapUint64", "internal/race.Write", "sync.runtime_SemacquireWaitGroup"], unfollowed := true, recurses := true, leaving := true, apart := false }
def BalanceDecidesSaid : Prop := balanceDecidesRow.holds Tryz.pinned (OpenSpec.ofChange balanceDecidesSpec)

/-- ITS FALSE NEIGHBOUR: 'it returns false'. Refute it at one input. -/
def balanceDecidesWrong : ChangeSpec := { name := "balanceDecides", fn := fun _ => fun
  | [d1, d2, d3] => { results := [.lit (.bool false)], args := [d1, d2, d3] }
  | _ => none }
def BalanceDecidesWrongFalsely : Prop := balanceDecidesRow.holds Tryz.pinned (OpenSpec.ofChange balanceDecidesWrong)

/-- 'sherdlaw22.BalanceChecks': WHATEVER THE INPUT: true; the input reads as it did. -/
def balanceChecksSpec : ChangeSpec := { name := "balanceChecks", fn := fun _ => fun
  | [d1, d2, d3, d4, d5] => { results := [.lit (.bool true)], args := [d1, d2, d3, d4, d5] }
  | _ => none }
def balanceChecksRow : OpenClaim := { program := "ytcpaopfdiahnnaagreat", sum := "9e0e22b44747f7a98e5face231dd625f81500ae48e75de578e28c17cd372ec58", func := "sherd/sherdlaw22.BalanceChecks", spec := "balanceChecks", inPlace := ["(*sync.WaitGroup).Add", "internal/race.ReleaseMerge", "internal/race.Disable", "internal/race.Enable", "internal/synctest.IsInBubble", "internal/synctest.Associate[sync.WaitGroup]", "sync.fatal", "sync/atomic.OrUint64", "sync/atomic.AddUint64", "internal/race.Read", "sync/atomic.LoadUint64", "sync/atomic.StoreUint64", "internal/synctest.Disassociate[sync.WaitGroup]", "sync.runtime_Semrelease", "(*sync.WaitGroup).Done", "(*sync.WaitGroup).Wait", "internal/race.Acquire", "internal/synctest.IsAssociated[sync.WaitGroup]", "sync/atomic.CompareAndSwapUint64", "internal/race.Write", "sync.runtime_SemacquireWaitGroup"], unfollowed := true, recurses := true, leaving := true, apart := false }
def BalanceChecksSaid : Prop := balanceChecksRow.holds Tryz.pinned (OpenSpec.ofChange balanceChecksSpec)

/-- ITS FALSE NEIGHBOUR: 'it returns false'. Refute it at one input. -/
def balanceChecksWrong : ChangeSpec := { name := "balanceChecks", fn := fun _ => fun
  | [d1, d2, d3, d4, d5] => { results := [.lit (.bool false)], args := [d1, d2, d3, d4, d5] }
  | _ => none }
def BalanceChecksWrongFalsely : Prop := balanceChecksRow.holds Tryz.pinned (OpenSpec.ofChange balanceChecksWrong)

/-- 'sherdlaw22.BalanceMoved': WHATEVER THE INPUT: true; the input reads as it did. -/
def balanceMovedSpec : ChangeSpec := { name := "balanceMoved", fn := fun _ => fun
  | [d1, d2, d3, d4, d5] => { results := [.lit (.bool true)], args := [d1, d2, d3, d4, d5] }
  | _ => none }
def balanceMovedRow : OpenClaim := { program := "ytcpaopfdiahnnaagreat", sum := "9e0e22b44747f7a98e5face231dd625f81500ae48e75de578e28c17cd372ec58", func := "sherd/sherdlaw22.BalanceMoved", spec := "balanceMoved", inPlace := ["(*sync.WaitGroup).Add", "internal/race.ReleaseMerge", "internal/race.Disable", "internal/race.Enable", "internal/synctest.IsInBubble", "internal/synctest.Associate[sync.WaitGroup]", "sync.fatal", "sync/atomic.OrUint64", "sync/atomic.AddUint64", "internal/race.Read", "sync/atomic.LoadUint64", "sync/atomic.StoreUint64", "internal/synctest.Disassociate[sync.WaitGroup]", "sync.runtime_Semrelease", "(*sync.WaitGroup).Done", "(*sync.WaitGroup).Wait", "internal/race.Acquire", "internal/synctest.IsAssociated[sync.WaitGroup]", "sync/atomic.CompareAndSwapUint64", "internal/race.Write", "sync.runtime_SemacquireWaitGroup"], unfollowed := true, recurses := true, leaving := true, apart := false }
def BalanceMovedSaid : Prop := balanceMovedRow.holds Tryz.pinned (OpenSpec.ofChange balanceMovedSpec)

/-- ITS FALSE NEIGHBOUR: 'it returns false'. Refute it at one input. -/
def balanceMovedWrong : ChangeSpec := { name := "balanceMoved", fn := fun _ => fun
  | [d1, d2, d3, d4, d5] => { results := [.lit (.bool false)], args := [d1, d2, d3, d4, d5] }
  | _ => none }
def BalanceMovedWrongFalsely : Prop := balanceMovedRow.holds Tryz.pinned (OpenSpec.ofChange balanceMovedWrong)

/-- 'sherdlaw22.BalanceMore': WHATEVER THE INPUT: true; the input reads as it did. -/
def balanceMoreSpec : ChangeSpec := { name := "balanceMore", fn := fun _ => fun
  | [d1, d2, d3, d4] => { results := [.lit (.bool true)], args := [d1, d2, d3, d4] }
  | _ => none }
def balanceMoreRow : OpenClaim := { program := "ytcpaopfdiahnnaagreat", sum := "9e0e22b44747f7a98e5face231dd625f81500ae48e75de578e28c17cd372ec58", func := "sherd/sherdlaw22.BalanceMore", spec := "balanceMore", inPlace := ["(*sync.WaitGroup).Add", "internal/race.ReleaseMerge", "internal/race.Disable", "internal/race.Enable", "internal/synctest.IsInBubble", "internal/synctest.Associate[sync.WaitGroup]", "sync.fatal", "sync/atomic.OrUint64", "sync/atomic.AddUint64", "internal/race.Read", "sync/atomic.LoadUint64", "sync/atomic.StoreUint64", "internal/synctest.Disassociate[sync.WaitGroup]", "sync.runtime_Semrelease", "(*sync.WaitGroup).Done", "(*sync.WaitGroup).Wait", "internal/race.Acquire", "internal/synctest.IsAssociated[sync.WaitGroup]", "sync/atomic.CompareAndSwapUint64", "internal/race.Write", "sync.runtime_SemacquireWaitGroup"], unfollowed := true, recurses := true, leaving := true, apart := false }
def BalanceMoreSaid : Prop := balanceMoreRow.holds Tryz.pinned (OpenSpec.ofChange balanceMoreSpec)

/-- ITS FALSE NEIGHBOUR: 'it returns false'. Refute it at one input. -/
def balanceMoreWrong : ChangeSpec := { name := "balanceMore", fn := fun _ => fun
  | [d1, d2, d3, d4] => { results := [.lit (.bool false)], args := [d1, d2, d3, d4] }
  | _ => none }
def BalanceMoreWrongFalsely : Prop := balanceMoreRow.holds Tryz.pinned (OpenSpec.ofChange balanceMoreWrong)

/-- 'sherdlaw22.BalanceBetween': WHATEVER THE INPUT: true; the input reads as it did. -/
def balanceBetweenSpec : ChangeSpec := { name := "balanceBetween", fn := fun _ => fun
  | [d1, d2] => { results := [.lit (.bool true)], args := [d1, d2] }
  | _ => none }
def balanceBetweenRow : OpenClaim := { program := "ytcpaopfdiahnnaagreat", sum := "9e0e22b44747f7a98e5face231dd625f81500ae48e75de578e28c17cd372ec58", func := "sherd/sherdlaw22.BalanceBetween", spec := "balanceBetween", inPlace := ["(*sync.WaitGroup).Add", "internal/race.ReleaseMerge", "internal/race.Disable", "internal/race.Enable", "internal/synctest.IsInBubble", "internal/synctest.Associate[sync.WaitGroup]", "sync.fatal", "sync/atomic.OrUint64", "sync/atomic.AddUint64", "internal/race.Read", "sync/atomic.LoadUint64", "sync/atomic.StoreUint64", "internal/synctest.Disassociate[sync.WaitGroup]", "sync.runtime_Semrelease", "(*sync.WaitGroup).Done", "(*sync.WaitGroup).Wait", "internal/race.Acquire", "internal/synctest.IsAssociated[sync.WaitGroup]", "sync/atomic.CompareAndSwapUint64", "internal/race.Write", "sync.runtime_SemacquireWaitGroup"], unfollowed := true, recurses := true, leaving := true, apart := false }
def BalanceBetweenSaid : Prop := balanceBetweenRow.holds Tryz.pinned (OpenSpec.ofChange balanceBetweenSpec)

/-- ITS FALSE NEIGHBOUR: 'it returns false'. Refute it at one input. -/
def balanceBetweenWrong : ChangeSpec := { name := "balanceBetween", fn := fun _ => fun
  | [d1, d2] => { results := [.lit (.bool false)], args := [d1, d2] }
  | _ => none }
def BalanceBetweenWrongFalsely : Prop := balanceBetweenRow.holds Tryz.pinned (OpenSpec.ofChange balanceBetweenWrong)

/-- 'sherdlaw22.BalanceMixes': WHATEVER THE INPUT: true; the input reads as it did. -/
def balanceMixesSpec : ChangeSpec := { name := "balanceMixes", fn := fun _ => fun
  | [d1, d2, d3, d4] => { results := [.lit (.bool true)], args := [d1, d2, d3, d4] }
  | _ => none }
def balanceMixesRow : OpenClaim := { program := "ytcpaopfdiahnnaagreat", sum := "9e0e22b44747f7a98e5face231dd625f81500ae48e75de578e28c17cd372ec58", func := "sherd/sherdlaw22.BalanceMixes", spec := "balanceMixes", inPlace := ["(*sync.WaitGroup).Add", "internal/race.ReleaseMerge", "internal/race.Disable", "internal/race.Enable", "internal/synctest.IsInBubble", "internal/synctest.Associate[sync.WaitGroup]", "sync.fatal", "sync/atomic.OrUint64", "sync/atomic.AddUint64", "internal/race.Read", "sync/atomic.LoadUint64", "sync/atomic.StoreUint64", "internal/synctest.Disassociate[sync.WaitGroup]", "sync.runtime_Semrelease", "(*sync.WaitGroup).Done", "(*sync.WaitGroup).Wait", "internal/race.Acquire", "internal/synctest.IsAssociated[sync.WaitGroup]", "sync/atomic.CompareAndSwapUint64", "internal/race.Write", "sync.runtime_SemacquireWaitGroup"], unfollowed := true, recurses := true, leaving := true, apart := false }
def BalanceMixesSaid : Prop := balanceMixesRow.holds Tryz.pinned (OpenSpec.ofChange balanceMixesSpec)

/-- ITS FALSE NEIGHBOUR: 'it returns false'. Refute it at one input. -/
def balanceMixesWrong : ChangeSpec := { name := "balanceMixes", fn := fun _ => fun
  | [d1, d2, d3, d4] => { results := [.lit (.bool false)], args := [d1, d2, d3, d4] }
  | _ => none }
def BalanceMixesWrongFalsely : Prop := balanceMixesRow.holds Tryz.pinned (OpenSpec.ofChange balanceMixesWrong)

/-- 'sherdlaw22.BalancePrograms': WHATEVER THE INPUT: true; the input reads as it did. -/
def balanceProgramsSpec : ChangeSpec := { name := "balancePrograms", fn := fun _ => fun
  | [d] => { results := [.lit (.bool true)], args := [d] }
  | _ => none }
def balanceProgramsRow : OpenClaim := { program := "ytcpaopfdiahnnaagreat", sum := "9e0e22b44747f7a98e5face231dd625f81500ae48e75de578e28c17cd372ec58", func := "sherd/sherdlaw22.BalancePrograms", spec := "balancePrograms", inPlace := ["(*sync.WaitGroup).Add", "internal/race.ReleaseMerge", "internal/race.Disable", "internal/race.Enable", "internal/synctest.IsInBubble", "internal/synctest.Associate[sync.WaitGroup]", "sync.fatal", "sync/atomic.OrUint64", "sync/atomic.AddUint64", "internal/race.Read", "sync/atomic.LoadUint64", "sync/atomic.StoreUint64", "internal/synctest.Disassociate[sync.WaitGroup]", "sync.runtime_Semrelease", "(*sync.WaitGroup).Done", "(*sync.WaitGroup).Wait", "internal/race.Acquire", "internal/synctest.IsAssociated[sync.WaitGroup]", "sync/atomic.CompareAndSwapUint64", "internal/race.Write", "sync.runtime_SemacquireWaitGroup"], unfollowed := true, recurses := true, leaving := true, apart := false }
def BalanceProgramsSaid : Prop := balanceProgramsRow.holds Tryz.pinned (OpenSpec.ofChange balanceProgramsSpec)

/-- ITS FALSE NEIGHBOUR: 'it returns false'. Refute it at one input. -/
def balanceProgramsWrong : ChangeSpec := { name := "balancePrograms", fn := fun _ => fun
  | [d] => { results := [.lit (.bool false)], args := [d] }
  | _ => none }
def BalanceProgramsWrongFalsely : Prop := balanceProgramsRow.holds Tryz.pinned (OpenSpec.ofChange balanceProgramsWrong)

/- THE SECOND FORM. 'bulk': how many values and letters a reading holds, each counted each time it is reached (what is shared counts as often as it is met; a slice's spare places count too). A statement '..UptoSaid' is the law's where the arguments, and the package variables that the reading takes, are together of bulk at most 1048576: NARROWER than '..Said'. Prove '..Said' where nothing that the law and all that it calls make is longer than what came in: it says more and counts as full. Else prove '..UptoSaid'. A law counts once. -/
mutual
def uptoBulk {H : Type} : DataW H → Nat
  | .lit (.string bytes) => bytes.length + 1
  | .lit _ => 1
  | .nil => 1
  | .ptr d => uptoBulk d + 1
  | .slice elems spare => uptoBulkAll elems + uptoBulkAll spare + 1
  | .agg parts => uptoBulkAll parts + 1
  | .iface _ d => uptoBulk d + 1
  | .map entries => uptoBulkEntries entries + 1
  | .held _ => 1
def uptoBulkAll {H : Type} : List (DataW H) → Nat
  | [] => 0
  | d :: r => uptoBulk d + uptoBulkAll r
def uptoBulkEntries {H : Type} : List (Lit × DataW H) → Nat
  | [] => 0
  | x :: r => uptoBulkEntry x + uptoBulkEntries r
def uptoBulkEntry {H : Type} : Lit × DataW H → Nat
  | (.string bytes, d) => bytes.length + uptoBulk d + 1
  | (_, d) => uptoBulk d + 1
 end
def uptoSmall : (H : Type) → List (DataW H) → Bool := fun _ ds => decide (uptoBulkAll ds ≤ 1048576)
def OpenSpec.upto (s : _root_.Go.ChangeSpec) : _root_.Go.OpenSpec := { _root_.Go.OpenSpec.ofChange s with cond := some uptoSmall }

/-- 'sherdlaw22.BalanceProblem', WHERE WHAT IT READS IS OF BULK AT MOST 1048576: true; the input reads as it did. -/
def balanceProblemUptoRow : OpenClaim := { program := "ytcpaopfdiahnnaagreat", sum := "9e0e22b44747f7a98e5face231dd625f81500ae48e75de578e28c17cd372ec58", func := "sherd/sherdlaw22.BalanceProblem", spec := "balanceProblem", inPlace := ["(*sync.WaitGroup).Add", "internal/race.ReleaseMerge", "internal/race.Disable", "internal/race.Enable", "internal/synctest.IsInBubble", "internal/synctest.Associate[sync.WaitGroup]", "sync.fatal", "sync/atomic.OrUint64", "sync/atomic.AddUint64", "internal/race.Read", "sync/atomic.LoadUint64", "sync/atomic.StoreUint64", "internal/synctest.Disassociate[sync.WaitGroup]", "sync.runtime_Semrelease", "(*sync.WaitGroup).Done", "(*sync.WaitGroup).Wait", "internal/race.Acquire", "internal/synctest.IsAssociated[sync.WaitGroup]", "sync/atomic.CompareAndSwapUint64", "internal/race.Write", "sync.runtime_SemacquireWaitGroup"], unfollowed := true, recurses := true, leaving := true, apart := false, narrowed := true }
def BalanceProblemUptoSaid : Prop := balanceProblemUptoRow.holds Tryz.pinned (OpenSpec.upto balanceProblemSpec)

/-- 'sherdlaw22.BalanceDecides', WHERE WHAT IT READS IS OF BULK AT MOST 1048576: true; the input reads as it did. -/
def balanceDecidesUptoRow : OpenClaim := { program := "ytcpaopfdiahnnaagreat", sum := "9e0e22b44747f7a98e5face231dd625f81500ae48e75de578e28c17cd372ec58", func := "sherd/sherdlaw22.BalanceDecides", spec := "balanceDecides", inPlace := ["(*sync.WaitGroup).Add", "internal/race.ReleaseMerge", "internal/race.Disable", "internal/race.Enable", "internal/synctest.IsInBubble", "internal/synctest.Associate[sync.WaitGroup]", "sync.fatal", "sync/atomic.OrUint64", "sync/atomic.AddUint64", "internal/race.Read", "sync/atomic.LoadUint64", "sync/atomic.StoreUint64", "internal/synctest.Disassociate[sync.WaitGroup]", "sync.runtime_Semrelease", "(*sync.WaitGroup).Done", "(*sync.WaitGroup).Wait", "internal/race.Acquire", "internal/synctest.IsAssociated[sync.WaitGroup]", "sync/atomic.CompareAndSwapUint64", "internal/race.Write", "sync.runtime_SemacquireWaitGroup"], unfollowed := true, recurses := true, leaving := true, apart := false, narrowed := true }
def BalanceDecidesUptoSaid : Prop := balanceDecidesUptoRow.holds Tryz.pinned (OpenSpec.upto balanceDecidesSpec)

/-- 'sherdlaw22.BalanceChecks', WHERE WHAT IT READS IS OF BULK AT MOST 1048576: true; the input reads as it did. -/
def balanceChecksUptoRow : OpenClaim := { program := "ytcpaopfdiahnnaagreat", sum := "9e0e22b44747f7a98e5face231dd625f81500ae48e75de578e28c17cd372ec58", func := "sherd/sherdlaw22.BalanceChecks", spec := "balanceChecks", inPlace := ["(*sync.WaitGroup).Add", "internal/race.ReleaseMerge", "internal/race.Disable", "internal/race.Enable", "internal/synctest.IsInBubble", "internal/synctest.Associate[sync.WaitGroup]", "sync.fatal", "sync/atomic.OrUint64", "sync/atomic.AddUint64", "internal/race.Read", "sync/atomic.LoadUint64", "sync/atomic.StoreUint64", "internal/synctest.Disassociate[sync.WaitGroup]", "sync.runtime_Semrelease", "(*sync.WaitGroup).Done", "(*sync.WaitGroup).Wait", "internal/race.Acquire", "internal/synctest.IsAssociated[sync.WaitGroup]", "sync/atomic.CompareAndSwapUint64", "internal/race.Write", "sync.runtime_SemacquireWaitGroup"], unfollowed := true, recurses := true, leaving := true, apart := false, narrowed := true }
def BalanceChecksUptoSaid : Prop := balanceChecksUptoRow.holds Tryz.pinned (OpenSpec.upto balanceChecksSpec)

/-- 'sherdlaw22.BalanceMoved', WHERE WHAT IT READS IS OF BULK AT MOST 1048576: true; the input reads as it did. -/
def balanceMovedUptoRow : OpenClaim := { program := "ytcpaopfdiahnnaagreat", sum := "9e0e22b44747f7a98e5face231dd625f81500ae48e75de578e28c17cd372ec58", func := "sherd/sherdlaw22.BalanceMoved", spec := "balanceMoved", inPlace := ["(*sync.WaitGroup).Add", "internal/race.ReleaseMerge", "internal/race.Disable", "internal/race.Enable", "internal/synctest.IsInBubble", "internal/synctest.Associate[sync.WaitGroup]", "sync.fatal", "sync/atomic.OrUint64", "sync/atomic.AddUint64", "internal/race.Read", "sync/atomic.LoadUint64", "sync/atomic.StoreUint64", "internal/synctest.Disassociate[sync.WaitGroup]", "sync.runtime_Semrelease", "(*sync.WaitGroup).Done", "(*sync.WaitGroup).Wait", "internal/race.Acquire", "internal/synctest.IsAssociated[sync.WaitGroup]", "sync/atomic.CompareAndSwapUint64", "internal/race.Write", "sync.runtime_SemacquireWaitGroup"], unfollowed := true, recurses := true, leaving := true, apart := false, narrowed := true }
def BalanceMovedUptoSaid : Prop := balanceMovedUptoRow.holds Tryz.pinned (OpenSpec.upto balanceMovedSpec)

/-- 'sherdlaw22.BalanceMore', WHERE WHAT IT READS IS OF BULK AT MOST 1048576: true; the input reads as it did. -/
def balanceMoreUptoRow : OpenClaim := { program := "ytcpaopfdiahnnaagreat", sum := "9e0e22b44747f7a98e5face231dd625f81500ae48e75de578e28c17cd372ec58", func := "sherd/sherdlaw22.BalanceMore", spec := "balanceMore", inPlace := ["(*sync.WaitGroup).Add", "internal/race.ReleaseMerge", "internal/race.Disable", "internal/race.Enable", "internal/synctest.IsInBubble", "internal/synctest.Associate[sync.WaitGroup]", "sync.fatal", "sync/atomic.OrUint64", "sync/atomic.AddUint64", "internal/race.Read", "sync/atomic.LoadUint64", "sync/atomic.StoreUint64", "internal/synctest.Disassociate[sync.WaitGroup]", "sync.runtime_Semrelease", "(*sync.WaitGroup).Done", "(*sync.WaitGroup).Wait", "internal/race.Acquire", "internal/synctest.IsAssociated[sync.WaitGroup]", "sync/atomic.CompareAndSwapUint64", "internal/race.Write", "sync.runtime_SemacquireWaitGroup"], unfollowed := true, recurses := true, leaving := true, apart := false, narrowed := true }
def BalanceMoreUptoSaid : Prop := balanceMoreUptoRow.holds Tryz.pinned (OpenSpec.upto balanceMoreSpec)

/-- 'sherdlaw22.BalanceBetween', WHERE WHAT IT READS IS OF BULK AT MOST 1048576: true; the input reads as it did. -/
def balanceBetweenUptoRow : OpenClaim := { program := "ytcpaopfdiahnnaagreat", sum := "9e0e22b44747f7a98e5face231dd625f81500ae48e75de578e28c17cd372ec58", func := "sherd/sherdlaw22.BalanceBetween", spec := "balanceBetween", inPlace := ["(*sync.WaitGroup).Add", "internal/race.ReleaseMerge", "internal/race.Disable", "internal/race.Enable", "internal/synctest.IsInBubble", "internal/synctest.Associate[sync.WaitGroup]", "sync.fatal", "sync/atomic.OrUint64", "sync/atomic.AddUint64", "internal/race.Read", "sync/atomic.LoadUint64", "sync/atomic.StoreUint64", "internal/synctest.Disassociate[sync.WaitGroup]", "sync.runtime_Semrelease", "(*sync.WaitGroup).Done", "(*sync.WaitGroup).Wait", "internal/race.Acquire", "internal/synctest.IsAssociated[sync.WaitGroup]", "sync/atomic.CompareAndSwapUint64", "internal/race.Write", "sync.runtime_SemacquireWaitGroup"], unfollowed := true, recurses := true, leaving := true, apart := false, narrowed := true }
def BalanceBetweenUptoSaid : Prop := balanceBetweenUptoRow.holds Tryz.pinned (OpenSpec.upto balanceBetweenSpec)

/-- 'sherdlaw22.BalanceMixes', WHERE WHAT IT READS IS OF BULK AT MOST 1048576: true; the input reads as it did. -/
def balanceMixesUptoRow : OpenClaim := { program := "ytcpaopfdiahnnaagreat", sum := "9e0e22b44747f7a98e5face231dd625f81500ae48e75de578e28c17cd372ec58", func := "sherd/sherdlaw22.BalanceMixes", spec := "balanceMixes", inPlace := ["(*sync.WaitGroup).Add", "internal/race.ReleaseMerge", "internal/race.Disable", "internal/race.Enable", "internal/synctest.IsInBubble", "internal/synctest.Associate[sync.WaitGroup]", "sync.fatal", "sync/atomic.OrUint64", "sync/atomic.AddUint64", "internal/race.Read", "sync/atomic.LoadUint64", "sync/atomic.StoreUint64", "internal/synctest.Disassociate[sync.WaitGroup]", "sync.runtime_Semrelease", "(*sync.WaitGroup).Done", "(*sync.WaitGroup).Wait", "internal/race.Acquire", "internal/synctest.IsAssociated[sync.WaitGroup]", "sync/atomic.CompareAndSwapUint64", "internal/race.Write", "sync.runtime_SemacquireWaitGroup"], unfollowed := true, recurses := true, leaving := true, apart := false, narrowed := true }
def BalanceMixesUptoSaid : Prop := balanceMixesUptoRow.holds Tryz.pinned (OpenSpec.upto balanceMixesSpec)

/-- 'sherdlaw22.BalancePrograms', WHERE WHAT IT READS IS OF BULK AT MOST 1048576: true; the input reads as it did. -/
def balanceProgramsUptoRow : OpenClaim := { program := "ytcpaopfdiahnnaagreat", sum := "9e0e22b44747f7a98e5face231dd625f81500ae48e75de578e28c17cd372ec58", func := "sherd/sherdlaw22.BalancePrograms", spec := "balancePrograms", inPlace := ["(*sync.WaitGroup).Add", "internal/race.ReleaseMerge", "internal/race.Disable", "internal/race.Enable", "internal/synctest.IsInBubble", "internal/synctest.Associate[sync.WaitGroup]", "sync.fatal", "sync/atomic.OrUint64", "sync/atomic.AddUint64", "internal/race.Read", "sync/atomic.LoadUint64", "sync/atomic.StoreUint64", "internal/synctest.Disassociate[sync.WaitGroup]", "sync.runtime_Semrelease", "(*sync.WaitGroup).Done", "(*sync.WaitGroup).Wait", "internal/race.Acquire", "internal/synctest.IsAssociated[sync.WaitGroup]", "sync/atomic.CompareAndSwapUint64", "internal/race.Write", "sync.runtime_SemacquireWaitGroup"], unfollowed := true, recurses := true, leaving := true, apart := false, narrowed := true }
def BalanceProgramsUptoSaid : Prop := balanceProgramsUptoRow.holds Tryz.pinned (OpenSpec.upto balanceProgramsSpec)

end Rows
end Go.Proofs.YtcpaopfdiahnnaaGreat
