/-
  No cell of these rows narrows 'for every input' (looked for: loops, veiled, ifaces, maps, wideKeys, modest, calm, conditions, laid).
  DERIVED. THE GIVEN ROWS OF THIS SEAT. 6 by the template 'for every input the law returns true; each argument reads behind the call as it read before'; 0 by the template 'total and deterministic' (their statements: YtgacbfckaglhbaaTotals.lean).
  GIVEN WITH THE SEED: the statements are not yours to turn. If you find one false, say at which input.
  Laid BY PROGRAM, IN A SANDBOX (cutbox-rows.mjs): the forced cells as the released guide's own fill.sh prints them over the translation 38ceaac3b51bb922… (all of the seat's roots in one cut). By AI agents, Wed Nov 11 2026. No macro, syntax, notation, axiom, sorry.
-/
import Derived.Test.YtgacbfckaglhbaaChecked
import GoSem.Claim
import GoSem.ClaimJoined
import GoSem.ClaimMapViews
import Derived.JoinedTies
import Derived.KernelRfl
namespace Go.Proofs.Ytgacbfckaglhbaa
/- THE CELL 'sum', in the pinned program and in every row, IS THE sha256 OF THE DUMP (.gsa) THAT YtgacbfckaglhbaaProg.lean LOADS. Nothing in Lean hashes anything: it is a label: what it is worth is what the hold of that sum in a sandbox is worth. -/
noncomputable def Try.pinned : Pinned := { name := "ytgacbfckaglhbaa", sum := "38ceaac3b51bb92235321953dc2191f6b58598f568674d6e952070eb987f67d6", checked := Try.checked }
namespace Rows
def none {H : Type} : Left H := { results := [], args := [] }

/-- 'sherdlaw32.ScheduleBest': WHATEVER THE INPUT: true; the input reads as it did. -/
def scheduleBestSpec : ChangeSpec := { name := "scheduleBest", fn := fun _ => fun
  | [d1, d2, d3] => { results := [.lit (.bool true)], args := [d1, d2, d3] }
  | _ => none }
def scheduleBestRow : OpenClaim := { program := "ytgacbfckaglhbaa", sum := "38ceaac3b51bb92235321953dc2191f6b58598f568674d6e952070eb987f67d6", func := "sherd/sherdlaw32.ScheduleBest", spec := "scheduleBest", unfollowed := true, recurses := true, plainKeys := false, apart := false }
def ScheduleBestSaid : Prop := scheduleBestRow.holds Try.pinned (OpenSpec.ofChange scheduleBestSpec)

/-- ITS FALSE NEIGHBOUR: 'it returns false'. Refute it at one input. -/
def scheduleBestWrong : ChangeSpec := { name := "scheduleBest", fn := fun _ => fun
  | [d1, d2, d3] => { results := [.lit (.bool false)], args := [d1, d2, d3] }
  | _ => none }
def ScheduleBestWrongFalsely : Prop := scheduleBestRow.holds Try.pinned (OpenSpec.ofChange scheduleBestWrong)

/-- 'sherdlaw32.ScheduleChecks': WHATEVER THE INPUT: true; the input reads as it did. -/
def scheduleChecksSpec : ChangeSpec := { name := "scheduleChecks", fn := fun _ => fun
  | [d1, d2, d3, d4, d5, d6] => { results := [.lit (.bool true)], args := [d1, d2, d3, d4, d5, d6] }
  | _ => none }
def scheduleChecksRow : OpenClaim := { program := "ytgacbfckaglhbaa", sum := "38ceaac3b51bb92235321953dc2191f6b58598f568674d6e952070eb987f67d6", func := "sherd/sherdlaw32.ScheduleChecks", spec := "scheduleChecks", unfollowed := true, recurses := true, plainKeys := false, apart := false }
def ScheduleChecksSaid : Prop := scheduleChecksRow.holds Try.pinned (OpenSpec.ofChange scheduleChecksSpec)

/-- ITS FALSE NEIGHBOUR: 'it returns false'. Refute it at one input. -/
def scheduleChecksWrong : ChangeSpec := { name := "scheduleChecks", fn := fun _ => fun
  | [d1, d2, d3, d4, d5, d6] => { results := [.lit (.bool false)], args := [d1, d2, d3, d4, d5, d6] }
  | _ => none }
def ScheduleChecksWrongFalsely : Prop := scheduleChecksRow.holds Try.pinned (OpenSpec.ofChange scheduleChecksWrong)

/-- 'sherdlaw32.ScheduleMore': WHATEVER THE INPUT: true; the input reads as it did. -/
def scheduleMoreSpec : ChangeSpec := { name := "scheduleMore", fn := fun _ => fun
  | [d1, d2, d3, d4] => { results := [.lit (.bool true)], args := [d1, d2, d3, d4] }
  | _ => none }
def scheduleMoreRow : OpenClaim := { program := "ytgacbfckaglhbaa", sum := "38ceaac3b51bb92235321953dc2191f6b58598f568674d6e952070eb987f67d6", func := "sherd/sherdlaw32.ScheduleMore", spec := "scheduleMore", unfollowed := true, recurses := true, plainKeys := false, apart := false }
def ScheduleMoreSaid : Prop := scheduleMoreRow.holds Try.pinned (OpenSpec.ofChange scheduleMoreSpec)

/-- ITS FALSE NEIGHBOUR: 'it returns false'. Refute it at one input. -/
def scheduleMoreWrong : ChangeSpec := { name := "scheduleMore", fn := fun _ => fun
  | [d1, d2, d3, d4] => { results := [.lit (.bool false)], args := [d1, d2, d3, d4] }
  | _ => none }
def ScheduleMoreWrongFalsely : Prop := scheduleMoreRow.holds Try.pinned (OpenSpec.ofChange scheduleMoreWrong)

/-- 'sherdlaw32.ScheduleGraham': WHATEVER THE INPUT: true; the input reads as it did. -/
def scheduleGrahamSpec : ChangeSpec := { name := "scheduleGraham", fn := fun _ => fun
  | [d1, d2] => { results := [.lit (.bool true)], args := [d1, d2] }
  | _ => none }
def scheduleGrahamRow : OpenClaim := { program := "ytgacbfckaglhbaa", sum := "38ceaac3b51bb92235321953dc2191f6b58598f568674d6e952070eb987f67d6", func := "sherd/sherdlaw32.ScheduleGraham", spec := "scheduleGraham", unfollowed := true, recurses := true, plainKeys := false, apart := false }
def ScheduleGrahamSaid : Prop := scheduleGrahamRow.holds Try.pinned (OpenSpec.ofChange scheduleGrahamSpec)

/-- ITS FALSE NEIGHBOUR: 'it returns false'. Refute it at one input. -/
def scheduleGrahamWrong : ChangeSpec := { name := "scheduleGraham", fn := fun _ => fun
  | [d1, d2] => { results := [.lit (.bool false)], args := [d1, d2] }
  | _ => none }
def ScheduleGrahamWrongFalsely : Prop := scheduleGrahamRow.holds Try.pinned (OpenSpec.ofChange scheduleGrahamWrong)

/-- 'sherdlaw32.ScheduleBounds': WHATEVER THE INPUT: true; the input reads as it did. -/
def scheduleBoundsSpec : ChangeSpec := { name := "scheduleBounds", fn := fun _ => fun
  | [d1, d2, d3, d4, d5, d6] => { results := [.lit (.bool true)], args := [d1, d2, d3, d4, d5, d6] }
  | _ => none }
def scheduleBoundsRow : OpenClaim := { program := "ytgacbfckaglhbaa", sum := "38ceaac3b51bb92235321953dc2191f6b58598f568674d6e952070eb987f67d6", func := "sherd/sherdlaw32.ScheduleBounds", spec := "scheduleBounds", unfollowed := true, recurses := true, plainKeys := false, apart := false }
def ScheduleBoundsSaid : Prop := scheduleBoundsRow.holds Try.pinned (OpenSpec.ofChange scheduleBoundsSpec)

/-- ITS FALSE NEIGHBOUR: 'it returns false'. Refute it at one input. -/
def scheduleBoundsWrong : ChangeSpec := { name := "scheduleBounds", fn := fun _ => fun
  | [d1, d2, d3, d4, d5, d6] => { results := [.lit (.bool false)], args := [d1, d2, d3, d4, d5, d6] }
  | _ => none }
def ScheduleBoundsWrongFalsely : Prop := scheduleBoundsRow.holds Try.pinned (OpenSpec.ofChange scheduleBoundsWrong)

/-- 'sherdlaw32.ScheduleLeast': WHATEVER THE INPUT: true; the input reads as it did. -/
def scheduleLeastSpec : ChangeSpec := { name := "scheduleLeast", fn := fun _ => fun
  | [d1, d2, d3, d4] => { results := [.lit (.bool true)], args := [d1, d2, d3, d4] }
  | _ => none }
def scheduleLeastRow : OpenClaim := { program := "ytgacbfckaglhbaa", sum := "38ceaac3b51bb92235321953dc2191f6b58598f568674d6e952070eb987f67d6", func := "sherd/sherdlaw32.ScheduleLeast", spec := "scheduleLeast", unfollowed := true, recurses := true, plainKeys := false, apart := false }
def ScheduleLeastSaid : Prop := scheduleLeastRow.holds Try.pinned (OpenSpec.ofChange scheduleLeastSpec)

/-- ITS FALSE NEIGHBOUR: 'it returns false'. Refute it at one input. -/
def scheduleLeastWrong : ChangeSpec := { name := "scheduleLeast", fn := fun _ => fun
  | [d1, d2, d3, d4] => { results := [.lit (.bool false)], args := [d1, d2, d3, d4] }
  | _ => none }
def ScheduleLeastWrongFalsely : Prop := scheduleLeastRow.holds Try.pinned (OpenSpec.ofChange scheduleLeastWrong)

/- THE SECOND FORM. 'bulk': how many values and letters a reading holds, each counted each time it is reached (what is shared counts as often as it is met; a slice's spare places count too). A statement '..UptoSaid' is the law's where the arguments, and the package variables that the reading takes, are together of bulk at most 1048576: NARROWER than '..Said'. Prove '..Said' where nothing that the law and all that it calls make is longer than what came in: it says more and counts as full. Else prove '..UptoSaid'. A law counts once. -/
mutual
def uptoBulk {H : Type} : DataW H → Nat
  | .lit (.string bytes) => bytes.length + 1
  | .lit _ => 1
  | .nil => 1
  | .ptr d => uptoBulk d + 1
  | .slice elems spare => uptoBulkAll elems + uptoBulkAll spare + 1
  | .agg parts => uptoBulkAll parts + 1
  | .iface _ d => uptoBulk d + 1
  | .map entries => uptoBulkEntries entries + 1
  | .held _ => 1
def uptoBulkAll {H : Type} : List (DataW H) → Nat
  | [] => 0
  | d :: r => uptoBulk d + uptoBulkAll r
def uptoBulkEntries {H : Type} : List (Lit × DataW H) → Nat
  | [] => 0
  | x :: r => uptoBulkEntry x + uptoBulkEntries r
def uptoBulkEntry {H : Type} : Lit × DataW H → Nat
  | (.string bytes, d) => bytes.length + uptoBulk d + 1
  | (_, d) => uptoBulk d + 1
 end
def uptoSmall : (H : Type) → List (DataW H) → Bool := fun _ ds => decide (uptoBulkAll ds ≤ 1048576)
def OpenSpec.upto (s : _root_.Go.ChangeSpec) : _root_.Go.OpenSpec := { _root_.Go.OpenSpec.ofChange s with cond := some uptoSmall }

/-- 'sherdlaw32.ScheduleBest', WHERE WHAT IT READS IS OF BULK AT MOST 1048576: true; the input reads as it did. -/
def scheduleBestUptoRow : OpenClaim := { program := "ytgacbfckaglhbaa", sum := "38ceaac3b51bb92235321953dc2191f6b58598f568674d6e952070eb987f67d6", func := "sherd/sherdlaw32.ScheduleBest", spec := "scheduleBest", unfollowed := true, recurses := true, plainKeys := false, apart := false, narrowed := true }
def ScheduleBestUptoSaid : Prop := scheduleBestUptoRow.holds Try.pinned (OpenSpec.upto scheduleBestSpec)

/-- 'sherdlaw32.ScheduleChecks', WHERE WHAT IT READS IS OF BULK AT MOST 1048576: true; the input reads as it did. -/
def scheduleChecksUptoRow : OpenClaim := { program := "ytgacbfckaglhbaa", sum := "38ceaac3b51bb92235321953dc2191f6b58598f568674d6e952070eb987f67d6", func := "sherd/sherdlaw32.ScheduleChecks", spec := "scheduleChecks", unfollowed := true, recurses := true, plainKeys := false, apart := false, narrowed := true }
def ScheduleChecksUptoSaid : Prop := scheduleChecksUptoRow.holds Try.pinned (OpenSpec.upto scheduleChecksSpec)

/-- 'sherdlaw32.ScheduleMore', WHERE WHAT IT READS IS OF BULK AT MOST 1048576: true; the input reads as it did. -/
def scheduleMoreUptoRow : OpenClaim := { program := "ytgacbfckaglhbaa", sum := "38ceaac3b51bb92235321953dc2191f6b58598f568674d6e952070eb987f67d6", func := "sherd/sherdlaw32.ScheduleMore", spec := "scheduleMore", unfollowed := true, recurses := true, plainKeys := false, apart := false, narrowed := true }
def ScheduleMoreUptoSaid : Prop := scheduleMoreUptoRow.holds Try.pinned (OpenSpec.upto scheduleMoreSpec)

/-- 'sherdlaw32.ScheduleGraham', WHERE WHAT IT READS IS OF BULK AT MOST 1048576: true; the input reads as it did. -/
def scheduleGrahamUptoRow : OpenClaim := { program := "ytgacbfckaglhbaa", sum := "38ceaac3b51bb92235321953dc2191f6b58598f568674d6e952070eb987f67d6", func := "sherd/sherdlaw32.ScheduleGraham", spec := "scheduleGraham", unfollowed := true, recurses := true, plainKeys := false, apart := false, narrowed := true }
def ScheduleGrahamUptoSaid : Prop := scheduleGrahamUptoRow.holds Try.pinned (OpenSpec.upto scheduleGrahamSpec)

/-- 'sherdlaw32.ScheduleBounds', WHERE WHAT IT READS IS OF BULK AT MOST 1048576: true; the input reads as it did. -/
def scheduleBoundsUptoRow : OpenClaim := { program := "ytgacbfckaglhbaa", sum := "38ceaac3b51bb92235321953dc2191f6b58598f568674d6e952070eb987f67d6", func := "sherd/sherdlaw32.ScheduleBounds", spec := "scheduleBounds", unfollowed := true, recurses := true, plainKeys := false, apart := false, narrowed := true }
def ScheduleBoundsUptoSaid : Prop := scheduleBoundsUptoRow.holds Try.pinned (OpenSpec.upto scheduleBoundsSpec)

/-- 'sherdlaw32.ScheduleLeast', WHERE WHAT IT READS IS OF BULK AT MOST 1048576: true; the input reads as it did. -/
def scheduleLeastUptoRow : OpenClaim := { program := "ytgacbfckaglhbaa", sum := "38ceaac3b51bb92235321953dc2191f6b58598f568674d6e952070eb987f67d6", func := "sherd/sherdlaw32.ScheduleLeast", spec := "scheduleLeast", unfollowed := true, recurses := true, plainKeys := false, apart := false, narrowed := true }
def ScheduleLeastUptoSaid : Prop := scheduleLeastUptoRow.holds Try.pinned (OpenSpec.upto scheduleLeastSpec)

end Rows
end Go.Proofs.Ytgacbfckaglhbaa
