/-
  No cell of these rows narrows 'for every input' (looked for: loops, veiled, ifaces, maps, wideKeys, modest, calm, conditions, laid).
  DERIVED. THE GIVEN ROWS OF THIS SEAT. 8 by the template 'for every input the law returns true; each argument reads behind the call as it read before'; 0 by the template 'total and deterministic' (their statements: YthggloiigkbfeaaGreatTotals.lean).
  GIVEN WITH THE SEED: the statements are not yours to turn. If you find one false, say at which input.
  Laid BY PROGRAM, IN A SANDBOX (cutbox-rows.mjs): the forced cells as the released guide's own fill.sh prints them over the translation 892f05ebe33adc0c… (all of the seat's roots in one cut). By AI agents, Wed Nov 11 2026. No macro, syntax, notation, axiom, sorry.
-/
import Derived.Test.YthggloiigkbfeaaGreatChecked
import GoSem.Claim
import GoSem.ClaimJoined
import GoSem.ClaimMapViews
import Derived.JoinedTies
import Derived.KernelRfl
namespace Go.Proofs.YthggloiigkbfeaaGreat
/- THE CELL 'sum', in the pinned program and in every row, IS THE sha256 OF THE DUMP (.gsa) THAT YthggloiigkbfeaaGreatProg.lean LOADS. Nothing in Lean hashes anything: it is a label: what it is worth is what the hold of that sum in a sandbox is worth. -/
noncomputable def Tryz.pinned : Pinned := { name := "ythggloiigkbfeaagreat", sum := "892f05ebe33adc0c218ce14056ec9c35a1c3ccc6c71705939cda4406a3d48483", checked := Tryz.checked }
namespace Rows
def none {H : Type} : Left H := { results := [], args := [] }

/-- 'sherdlaw32.ScheduleCritical': WHATEVER THE INPUT: true; the input reads as it did. -/
def scheduleCriticalSpec : ChangeSpec := { name := "scheduleCritical", fn := fun _ => fun
  | [d1, d2] => { results := [.lit (.bool true)], args := [d1, d2] }
  | _ => none }
def scheduleCriticalRow : OpenClaim := { program := "ythggloiigkbfeaagreat", sum := "892f05ebe33adc0c218ce14056ec9c35a1c3ccc6c71705939cda4406a3d48483", func := "sherd/sherdlaw32.ScheduleCritical", spec := "scheduleCritical", unfollowed := true, recurses := true, plainKeys := false, apart := false }
def ScheduleCriticalSaid : Prop := scheduleCriticalRow.holds Tryz.pinned (OpenSpec.ofChange scheduleCriticalSpec)

/-- ITS FALSE NEIGHBOUR: 'it returns false'. Refute it at one input. -/
def scheduleCriticalWrong : ChangeSpec := { name := "scheduleCritical", fn := fun _ => fun
  | [d1, d2] => { results := [.lit (.bool false)], args := [d1, d2] }
  | _ => none }
def ScheduleCriticalWrongFalsely : Prop := scheduleCriticalRow.holds Tryz.pinned (OpenSpec.ofChange scheduleCriticalWrong)

/-- 'sherdlaw11.BoundsSolves': WHATEVER THE INPUT: true; the input reads as it did. -/
def boundsSolvesSpec : ChangeSpec := { name := "boundsSolves", fn := fun _ => fun
  | [d1, d2, d3, d4, d5] => { results := [.lit (.bool true)], args := [d1, d2, d3, d4, d5] }
  | _ => none }
def boundsSolvesRow : OpenClaim := { program := "ythggloiigkbfeaagreat", sum := "892f05ebe33adc0c218ce14056ec9c35a1c3ccc6c71705939cda4406a3d48483", func := "sherd/sherdlaw11.BoundsSolves", spec := "boundsSolves", unfollowed := true, recurses := true, plainKeys := false, apart := false }
def BoundsSolvesSaid : Prop := boundsSolvesRow.holds Tryz.pinned (OpenSpec.ofChange boundsSolvesSpec)

/-- ITS FALSE NEIGHBOUR: 'it returns false'. Refute it at one input. -/
def boundsSolvesWrong : ChangeSpec := { name := "boundsSolves", fn := fun _ => fun
  | [d1, d2, d3, d4, d5] => { results := [.lit (.bool false)], args := [d1, d2, d3, d4, d5] }
  | _ => none }
def BoundsSolvesWrongFalsely : Prop := boundsSolvesRow.holds Tryz.pinned (OpenSpec.ofChange boundsSolvesWrong)

/-- 'sherdlaw11.BoundsDifferences': WHATEVER THE INPUT: true; the input reads as it did. -/
def boundsDifferencesSpec : ChangeSpec := { name := "boundsDifferences", fn := fun _ => fun
  | [d1, d2, d3, d4, d5] => { results := [.lit (.bool true)], args := [d1, d2, d3, d4, d5] }
  | _ => none }
def boundsDifferencesRow : OpenClaim := { program := "ythggloiigkbfeaagreat", sum := "892f05ebe33adc0c218ce14056ec9c35a1c3ccc6c71705939cda4406a3d48483", func := "sherd/sherdlaw11.BoundsDifferences", spec := "boundsDifferences", unfollowed := true, recurses := true, plainKeys := false, apart := false }
def BoundsDifferencesSaid : Prop := boundsDifferencesRow.holds Tryz.pinned (OpenSpec.ofChange boundsDifferencesSpec)

/-- ITS FALSE NEIGHBOUR: 'it returns false'. Refute it at one input. -/
def boundsDifferencesWrong : ChangeSpec := { name := "boundsDifferences", fn := fun _ => fun
  | [d1, d2, d3, d4, d5] => { results := [.lit (.bool false)], args := [d1, d2, d3, d4, d5] }
  | _ => none }
def BoundsDifferencesWrongFalsely : Prop := boundsDifferencesRow.holds Tryz.pinned (OpenSpec.ofChange boundsDifferencesWrong)

/-- 'sherdlaw11.BoundsLattice': WHATEVER THE INPUT: true; the input reads as it did. -/
def boundsLatticeSpec : ChangeSpec := { name := "boundsLattice", fn := fun _ => fun
  | [d1, d2, d3] => { results := [.lit (.bool true)], args := [d1, d2, d3] }
  | _ => none }
def boundsLatticeRow : OpenClaim := { program := "ythggloiigkbfeaagreat", sum := "892f05ebe33adc0c218ce14056ec9c35a1c3ccc6c71705939cda4406a3d48483", func := "sherd/sherdlaw11.BoundsLattice", spec := "boundsLattice", unfollowed := true, recurses := true, plainKeys := false, apart := false }
def BoundsLatticeSaid : Prop := boundsLatticeRow.holds Tryz.pinned (OpenSpec.ofChange boundsLatticeSpec)

/-- ITS FALSE NEIGHBOUR: 'it returns false'. Refute it at one input. -/
def boundsLatticeWrong : ChangeSpec := { name := "boundsLattice", fn := fun _ => fun
  | [d1, d2, d3] => { results := [.lit (.bool false)], args := [d1, d2, d3] }
  | _ => none }
def BoundsLatticeWrongFalsely : Prop := boundsLatticeRow.holds Tryz.pinned (OpenSpec.ofChange boundsLatticeWrong)

/-- 'sherdlaw11.BoundsCores': WHATEVER THE INPUT: true; the input reads as it did. -/
def boundsCoresSpec : ChangeSpec := { name := "boundsCores", fn := fun _ => fun
  | [d1, d2, d3, d4] => { results := [.lit (.bool true)], args := [d1, d2, d3, d4] }
  | _ => none }
def boundsCoresRow : OpenClaim := { program := "ythggloiigkbfeaagreat", sum := "892f05ebe33adc0c218ce14056ec9c35a1c3ccc6c71705939cda4406a3d48483", func := "sherd/sherdlaw11.BoundsCores", spec := "boundsCores", unfollowed := true, recurses := true, plainKeys := false, apart := false }
def BoundsCoresSaid : Prop := boundsCoresRow.holds Tryz.pinned (OpenSpec.ofChange boundsCoresSpec)

/-- ITS FALSE NEIGHBOUR: 'it returns false'. Refute it at one input. -/
def boundsCoresWrong : ChangeSpec := { name := "boundsCores", fn := fun _ => fun
  | [d1, d2, d3, d4] => { results := [.lit (.bool false)], args := [d1, d2, d3, d4] }
  | _ => none }
def BoundsCoresWrongFalsely : Prop := boundsCoresRow.holds Tryz.pinned (OpenSpec.ofChange boundsCoresWrong)

/-- 'sherdlaw11.BoundsEither': WHATEVER THE INPUT: true; the input reads as it did. -/
def boundsEitherSpec : ChangeSpec := { name := "boundsEither", fn := fun _ => fun
  | [d1, d2] => { results := [.lit (.bool true)], args := [d1, d2] }
  | _ => none }
def boundsEitherRow : OpenClaim := { program := "ythggloiigkbfeaagreat", sum := "892f05ebe33adc0c218ce14056ec9c35a1c3ccc6c71705939cda4406a3d48483", func := "sherd/sherdlaw11.BoundsEither", spec := "boundsEither", unfollowed := true, recurses := true, plainKeys := false, apart := false }
def BoundsEitherSaid : Prop := boundsEitherRow.holds Tryz.pinned (OpenSpec.ofChange boundsEitherSpec)

/-- ITS FALSE NEIGHBOUR: 'it returns false'. Refute it at one input. -/
def boundsEitherWrong : ChangeSpec := { name := "boundsEither", fn := fun _ => fun
  | [d1, d2] => { results := [.lit (.bool false)], args := [d1, d2] }
  | _ => none }
def BoundsEitherWrongFalsely : Prop := boundsEitherRow.holds Tryz.pinned (OpenSpec.ofChange boundsEitherWrong)

/-- 'sherdlaw11.BoundsReached': WHATEVER THE INPUT: true; the input reads as it did. -/
def boundsReachedSpec : ChangeSpec := { name := "boundsReached", fn := fun _ => fun
  | [d1, d2, d3, d4, d5] => { results := [.lit (.bool true)], args := [d1, d2, d3, d4, d5] }
  | _ => none }
def boundsReachedRow : OpenClaim := { program := "ythggloiigkbfeaagreat", sum := "892f05ebe33adc0c218ce14056ec9c35a1c3ccc6c71705939cda4406a3d48483", func := "sherd/sherdlaw11.BoundsReached", spec := "boundsReached", unfollowed := true, recurses := true, plainKeys := false, apart := false }
def BoundsReachedSaid : Prop := boundsReachedRow.holds Tryz.pinned (OpenSpec.ofChange boundsReachedSpec)

/-- ITS FALSE NEIGHBOUR: 'it returns false'. Refute it at one input. -/
def boundsReachedWrong : ChangeSpec := { name := "boundsReached", fn := fun _ => fun
  | [d1, d2, d3, d4, d5] => { results := [.lit (.bool false)], args := [d1, d2, d3, d4, d5] }
  | _ => none }
def BoundsReachedWrongFalsely : Prop := boundsReachedRow.holds Tryz.pinned (OpenSpec.ofChange boundsReachedWrong)

/-- 'sherdlaw11.BoundsShifted': WHATEVER THE INPUT: true; the input reads as it did. -/
def boundsShiftedSpec : ChangeSpec := { name := "boundsShifted", fn := fun _ => fun
  | [d1, d2, d3, d4] => { results := [.lit (.bool true)], args := [d1, d2, d3, d4] }
  | _ => none }
def boundsShiftedRow : OpenClaim := { program := "ythggloiigkbfeaagreat", sum := "892f05ebe33adc0c218ce14056ec9c35a1c3ccc6c71705939cda4406a3d48483", func := "sherd/sherdlaw11.BoundsShifted", spec := "boundsShifted", unfollowed := true, recurses := true, plainKeys := false, apart := false }
def BoundsShiftedSaid : Prop := boundsShiftedRow.holds Tryz.pinned (OpenSpec.ofChange boundsShiftedSpec)

/-- ITS FALSE NEIGHBOUR: 'it returns false'. Refute it at one input. -/
def boundsShiftedWrong : ChangeSpec := { name := "boundsShifted", fn := fun _ => fun
  | [d1, d2, d3, d4] => { results := [.lit (.bool false)], args := [d1, d2, d3, d4] }
  | _ => none }
def BoundsShiftedWrongFalsely : Prop := boundsShiftedRow.holds Tryz.pinned (OpenSpec.ofChange boundsShiftedWrong)

/- THE SECOND FORM. 'bulk': how many values and letters a reading holds, each counted each time it is reached (what is shared counts as often as it is met; a slice's spare places count too). A statement '..UptoSaid' is the law's where the arguments, and the package variables that the reading takes, are together of bulk at most 1048576: NARROWER than '..Said'. Prove '..Said' where nothing that the law and all that it calls make is longer than what came in: it says more and counts as full. Else prove '..UptoSaid'. A law counts once. -/
mutual
def uptoBulk {H : Type} : DataW H → Nat
  | .lit (.string bytes) => bytes.length + 1
  | .lit _ => 1
  | .nil => 1
  | .ptr d => uptoBulk d + 1
  | .slice elems spare => uptoBulkAll elems + uptoBulkAll spare + 1
  | .agg parts => uptoBulkAll parts + 1
  | .iface _ d => uptoBulk d + 1
  | .map entries => uptoBulkEntries entries + 1
  | .held _ => 1
def uptoBulkAll {H : Type} : List (DataW H) → Nat
  | [] => 0
  | d :: r => uptoBulk d + uptoBulkAll r
def uptoBulkEntries {H : Type} : List (Lit × DataW H) → Nat
  | [] => 0
  | x :: r => uptoBulkEntry x + uptoBulkEntries r
def uptoBulkEntry {H : Type} : Lit × DataW H → Nat
  | (.string bytes, d) => bytes.length + uptoBulk d + 1
  | (_, d) => uptoBulk d + 1
 end
def uptoSmall : (H : Type) → List (DataW H) → Bool := fun _ ds => decide (uptoBulkAll ds ≤ 1048576)
def OpenSpec.upto (s : _root_.Go.ChangeSpec) : _root_.Go.OpenSpec := { _root_.Go.OpenSpec.ofChange s with cond := some uptoSmall }

/-- 'sherdlaw32.ScheduleCritical', WHERE WHAT IT READS IS OF BULK AT MOST 1048576: true; the input reads as it did. -/
def scheduleCriticalUptoRow : OpenClaim := { program := "ythggloiigkbfeaagreat", sum := "892f05ebe33adc0c218ce14056ec9c35a1c3ccc6c71705939cda4406a3d48483", func := "sherd/sherdlaw32.ScheduleCritical", spec := "scheduleCritical", unfollowed := true, recurses := true, plainKeys := false, apart := false, narrowed := true }
def ScheduleCriticalUptoSaid : Prop := scheduleCriticalUptoRow.holds Tryz.pinned (OpenSpec.upto scheduleCriticalSpec)

/-- 'sherdlaw11.BoundsSolves', WHERE WHAT IT READS IS OF BULK AT MOST 1048576: true; the input reads as it did. -/
def boundsSolvesUptoRow : OpenClaim := { program := "ythggloiigkbfeaagreat", sum := "892f05ebe33adc0c218ce14056ec9c35a1c3ccc6c71705939cda4406a3d48483", func := "sherd/sherdlaw11.BoundsSolves", spec := "boundsSolves", unfollowed := true, recurses := true, plainKeys := false, apart := false, narrowed := true }
def BoundsSolvesUptoSaid : Prop := boundsSolvesUptoRow.holds Tryz.pinned (OpenSpec.upto boundsSolvesSpec)

/-- 'sherdlaw11.BoundsDifferences', WHERE WHAT IT READS IS OF BULK AT MOST 1048576: true; the input reads as it did. -/
def boundsDifferencesUptoRow : OpenClaim := { program := "ythggloiigkbfeaagreat", sum := "892f05ebe33adc0c218ce14056ec9c35a1c3ccc6c71705939cda4406a3d48483", func := "sherd/sherdlaw11.BoundsDifferences", spec := "boundsDifferences", unfollowed := true, recurses := true, plainKeys := false, apart := false, narrowed := true }
def BoundsDifferencesUptoSaid : Prop := boundsDifferencesUptoRow.holds Tryz.pinned (OpenSpec.upto boundsDifferencesSpec)

/-- 'sherdlaw11.BoundsLattice', WHERE WHAT IT READS IS OF BULK AT MOST 1048576: true; the input reads as it did. -/
def boundsLatticeUptoRow : OpenClaim := { program := "ythggloiigkbfeaagreat", sum := "892f05ebe33adc0c218ce14056ec9c35a1c3ccc6c71705939cda4406a3d48483", func := "sherd/sherdlaw11.BoundsLattice", spec := "boundsLattice", unfollowed := true, recurses := true, plainKeys := false, apart := false, narrowed := true }
def BoundsLatticeUptoSaid : Prop := boundsLatticeUptoRow.holds Tryz.pinned (OpenSpec.upto boundsLatticeSpec)

/-- 'sherdlaw11.BoundsCores', WHERE WHAT IT READS IS OF BULK AT MOST 1048576: true; the input reads as it did. -/
def boundsCoresUptoRow : OpenClaim := { program := "ythggloiigkbfeaagreat", sum := "892f05ebe33adc0c218ce14056ec9c35a1c3ccc6c71705939cda4406a3d48483", func := "sherd/sherdlaw11.BoundsCores", spec := "boundsCores", unfollowed := true, recurses := true, plainKeys := false, apart := false, narrowed := true }
def BoundsCoresUptoSaid : Prop := boundsCoresUptoRow.holds Tryz.pinned (OpenSpec.upto boundsCoresSpec)

/-- 'sherdlaw11.BoundsEither', WHERE WHAT IT READS IS OF BULK AT MOST 1048576: true; the input reads as it did. -/
def boundsEitherUptoRow : OpenClaim := { program := "ythggloiigkbfeaagreat", sum := "892f05ebe33adc0c218ce14056ec9c35a1c3ccc6c71705939cda4406a3d48483", func := "sherd/sherdlaw11.BoundsEither", spec := "boundsEither", unfollowed := true, recurses := true, plainKeys := false, apart := false, narrowed := true }
def BoundsEitherUptoSaid : Prop := boundsEitherUptoRow.holds Tryz.pinned (OpenSpec.upto boundsEitherSpec)

/-- 'sherdlaw11.BoundsReached', WHERE WHAT IT READS IS OF BULK AT MOST 1048576: true; the input reads as it did. -/
def boundsReachedUptoRow : OpenClaim := { program := "ythggloiigkbfeaagreat", sum := "892f05ebe33adc0c218ce14056ec9c35a1c3ccc6c71705939cda4406a3d48483", func := "sherd/sherdlaw11.BoundsReached", spec := "boundsReached", unfollowed := true, recurses := true, plainKeys := false, apart := false, narrowed := true }
def BoundsReachedUptoSaid : Prop := boundsReachedUptoRow.holds Tryz.pinned (OpenSpec.upto boundsReachedSpec)

/-- 'sherdlaw11.BoundsShifted', WHERE WHAT IT READS IS OF BULK AT MOST 1048576: true; the input reads as it did. -/
def boundsShiftedUptoRow : OpenClaim := { program := "ythggloiigkbfeaagreat", sum := "892f05ebe33adc0c218ce14056ec9c35a1c3ccc6c71705939cda4406a3d48483", func := "sherd/sherdlaw11.BoundsShifted", spec := "boundsShifted", unfollowed := true, recurses := true, plainKeys := false, apart := false, narrowed := true }
def BoundsShiftedUptoSaid : Prop := boundsShiftedUptoRow.holds Tryz.pinned (OpenSpec.upto boundsShiftedSpec)

end Rows
end Go.Proofs.YthggloiigkbfeaaGreat
