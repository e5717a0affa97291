/-
  No cell of these rows narrows 'for every input' (looked for: loops, veiled, ifaces, maps, wideKeys, modest, calm, conditions, laid).
  DERIVED. THE GIVEN ROWS OF THIS SEAT. 6 by the template 'for every input the law returns true; each argument reads behind the call as it read before'; 0 by the template 'total and deterministic' (their statements: YtcdcocnljnlkfaaTotals.lean).
  GIVEN WITH THE SEED: the statements are not yours to turn. If you find one false, say at which input.
  Laid BY PROGRAM, IN A SANDBOX (cutbox-rows.mjs): the forced cells as the released guide's own fill.sh prints them over the translation 7b399b855de90f41… (all of the seat's roots in one cut). By AI agents, Wed Nov 11 2026. No macro, syntax, notation, axiom, sorry.
-/
import Derived.Test.YtcdcocnljnlkfaaChecked
import GoSem.Claim
import GoSem.ClaimJoined
import GoSem.ClaimMapViews
import Derived.JoinedTies
import Derived.KernelRfl
namespace Go.Proofs.Ytcdcocnljnlkfaa
/- THE CELL 'sum', in the pinned program and in every row, IS THE sha256 OF THE DUMP (.gsa) THAT YtcdcocnljnlkfaaProg.lean LOADS. Nothing in Lean hashes anything: it is a label: what it is worth is what the hold of that sum in a sandbox is worth. -/
noncomputable def Try.pinned : Pinned := { name := "ytcdcocnljnlkfaa", sum := "7b399b855de90f41703f9b455f1ddfd049718b3c221b976eba7c73390d635705", checked := Try.checked }
namespace Rows
def none {H : Type} : Left H := { results := [], args := [] }

/-- 'horariumlaw12.PersonLeaves': WHATEVER THE INPUT: true; the input reads as it did. -/
def personLeavesSpec : ChangeSpec := { name := "personLeaves", fn := fun _ => fun
  | [d1, d2] => { results := [.lit (.bool true)], args := [d1, d2] }
  | _ => none }
def personLeavesRow : OpenClaim := { program := "ytcdcocnljnlkfaa", sum := "7b399b855de90f41703f9b455f1ddfd049718b3c221b976eba7c73390d635705", func := "horarium/horariumlaw12.PersonLeaves", spec := "personLeaves", unfollowed := true, recurses := true, apart := false }
def PersonLeavesSaid : Prop := personLeavesRow.holds Try.pinned (OpenSpec.ofChange personLeavesSpec)

/-- ITS FALSE NEIGHBOUR: 'it returns false'. Refute it at one input. -/
def personLeavesWrong : ChangeSpec := { name := "personLeaves", fn := fun _ => fun
  | [d1, d2] => { results := [.lit (.bool false)], args := [d1, d2] }
  | _ => none }
def PersonLeavesWrongFalsely : Prop := personLeavesRow.holds Try.pinned (OpenSpec.ofChange personLeavesWrong)

/-- 'horariumlaw12.PersonTells': WHATEVER THE INPUT: true; the input reads as it did. -/
def personTellsSpec : ChangeSpec := { name := "personTells", fn := fun _ => fun
  | [d1, d2, d3] => { results := [.lit (.bool true)], args := [d1, d2, d3] }
  | _ => none }
def personTellsRow : OpenClaim := { program := "ytcdcocnljnlkfaa", sum := "7b399b855de90f41703f9b455f1ddfd049718b3c221b976eba7c73390d635705", func := "horarium/horariumlaw12.PersonTells", spec := "personTells", unfollowed := true, recurses := true, apart := false }
def PersonTellsSaid : Prop := personTellsRow.holds Try.pinned (OpenSpec.ofChange personTellsSpec)

/-- ITS FALSE NEIGHBOUR: 'it returns false'. Refute it at one input. -/
def personTellsWrong : ChangeSpec := { name := "personTells", fn := fun _ => fun
  | [d1, d2, d3] => { results := [.lit (.bool false)], args := [d1, d2, d3] }
  | _ => none }
def PersonTellsWrongFalsely : Prop := personTellsRow.holds Try.pinned (OpenSpec.ofChange personTellsWrong)

/-- 'horariumlaw12.PersonReach': WHATEVER THE INPUT: true; the input reads as it did. -/
def personReachSpec : ChangeSpec := { name := "personReach", fn := fun _ => fun
  | [d1, d2, d3] => { results := [.lit (.bool true)], args := [d1, d2, d3] }
  | _ => none }
def personReachRow : OpenClaim := { program := "ytcdcocnljnlkfaa", sum := "7b399b855de90f41703f9b455f1ddfd049718b3c221b976eba7c73390d635705", func := "horarium/horariumlaw12.PersonReach", spec := "personReach", unfollowed := true, recurses := true, apart := false }
def PersonReachSaid : Prop := personReachRow.holds Try.pinned (OpenSpec.ofChange personReachSpec)

/-- ITS FALSE NEIGHBOUR: 'it returns false'. Refute it at one input. -/
def personReachWrong : ChangeSpec := { name := "personReach", fn := fun _ => fun
  | [d1, d2, d3] => { results := [.lit (.bool false)], args := [d1, d2, d3] }
  | _ => none }
def PersonReachWrongFalsely : Prop := personReachRow.holds Try.pinned (OpenSpec.ofChange personReachWrong)

/-- 'horariumlaw12.PersonDays': WHATEVER THE INPUT: true; the input reads as it did. -/
def personDaysSpec : ChangeSpec := { name := "personDays", fn := fun _ => fun
  | [d1, d2] => { results := [.lit (.bool true)], args := [d1, d2] }
  | _ => none }
def personDaysRow : OpenClaim := { program := "ytcdcocnljnlkfaa", sum := "7b399b855de90f41703f9b455f1ddfd049718b3c221b976eba7c73390d635705", func := "horarium/horariumlaw12.PersonDays", spec := "personDays", unfollowed := true, recurses := true, apart := false }
def PersonDaysSaid : Prop := personDaysRow.holds Try.pinned (OpenSpec.ofChange personDaysSpec)

/-- ITS FALSE NEIGHBOUR: 'it returns false'. Refute it at one input. -/
def personDaysWrong : ChangeSpec := { name := "personDays", fn := fun _ => fun
  | [d1, d2] => { results := [.lit (.bool false)], args := [d1, d2] }
  | _ => none }
def PersonDaysWrongFalsely : Prop := personDaysRow.holds Try.pinned (OpenSpec.ofChange personDaysWrong)

/-- 'horariumlaw12.PersonSpreads': WHATEVER THE INPUT: true; the input reads as it did. -/
def personSpreadsSpec : ChangeSpec := { name := "personSpreads", fn := fun _ => fun
  | [d1, d2, d3] => { results := [.lit (.bool true)], args := [d1, d2, d3] }
  | _ => none }
def personSpreadsRow : OpenClaim := { program := "ytcdcocnljnlkfaa", sum := "7b399b855de90f41703f9b455f1ddfd049718b3c221b976eba7c73390d635705", func := "horarium/horariumlaw12.PersonSpreads", spec := "personSpreads", unfollowed := true, recurses := true, apart := false }
def PersonSpreadsSaid : Prop := personSpreadsRow.holds Try.pinned (OpenSpec.ofChange personSpreadsSpec)

/-- ITS FALSE NEIGHBOUR: 'it returns false'. Refute it at one input. -/
def personSpreadsWrong : ChangeSpec := { name := "personSpreads", fn := fun _ => fun
  | [d1, d2, d3] => { results := [.lit (.bool false)], args := [d1, d2, d3] }
  | _ => none }
def PersonSpreadsWrongFalsely : Prop := personSpreadsRow.holds Try.pinned (OpenSpec.ofChange personSpreadsWrong)

/-- 'horariumlaw12.PersonBusy': WHATEVER THE INPUT: true; the input reads as it did. -/
def personBusySpec : ChangeSpec := { name := "personBusy", fn := fun _ => fun
  | [d1, d2] => { results := [.lit (.bool true)], args := [d1, d2] }
  | _ => none }
def personBusyRow : OpenClaim := { program := "ytcdcocnljnlkfaa", sum := "7b399b855de90f41703f9b455f1ddfd049718b3c221b976eba7c73390d635705", func := "horarium/horariumlaw12.PersonBusy", spec := "personBusy", unfollowed := true, recurses := true, apart := false }
def PersonBusySaid : Prop := personBusyRow.holds Try.pinned (OpenSpec.ofChange personBusySpec)

/-- ITS FALSE NEIGHBOUR: 'it returns false'. Refute it at one input. -/
def personBusyWrong : ChangeSpec := { name := "personBusy", fn := fun _ => fun
  | [d1, d2] => { results := [.lit (.bool false)], args := [d1, d2] }
  | _ => none }
def PersonBusyWrongFalsely : Prop := personBusyRow.holds Try.pinned (OpenSpec.ofChange personBusyWrong)

/- THE SECOND FORM. 'bulk': how many values and letters a reading holds, each counted each time it is reached (what is shared counts as often as it is met; a slice's spare places count too). A statement '..UptoSaid' is the law's where the arguments, and the package variables that the reading takes, are together of bulk at most 1048576: NARROWER than '..Said'. Prove '..Said' where nothing that the law and all that it calls make is longer than what came in: it says more and counts as full. Else prove '..UptoSaid'. A law counts once. -/
mutual
def uptoBulk {H : Type} : DataW H → Nat
  | .lit (.string bytes) => bytes.length + 1
  | .lit _ => 1
  | .nil => 1
  | .ptr d => uptoBulk d + 1
  | .slice elems spare => uptoBulkAll elems + uptoBulkAll spare + 1
  | .agg parts => uptoBulkAll parts + 1
  | .iface _ d => uptoBulk d + 1
  | .map entries => uptoBulkEntries entries + 1
  | .held _ => 1
def uptoBulkAll {H : Type} : List (DataW H) → Nat
  | [] => 0
  | d :: r => uptoBulk d + uptoBulkAll r
def uptoBulkEntries {H : Type} : List (Lit × DataW H) → Nat
  | [] => 0
  | x :: r => uptoBulkEntry x + uptoBulkEntries r
def uptoBulkEntry {H : Type} : Lit × DataW H → Nat
  | (.string bytes, d) => bytes.length + uptoBulk d + 1
  | (_, d) => uptoBulk d + 1
 end
def uptoSmall : (H : Type) → List (DataW H) → Bool := fun _ ds => decide (uptoBulkAll ds ≤ 1048576)
def OpenSpec.upto (s : _root_.Go.ChangeSpec) : _root_.Go.OpenSpec := { _root_.Go.OpenSpec.ofChange s with cond := some uptoSmall }

/-- 'horariumlaw12.PersonLeaves', WHERE WHAT IT READS IS OF BULK AT MOST 1048576: true; the input reads as it did. -/
def personLeavesUptoRow : OpenClaim := { program := "ytcdcocnljnlkfaa", sum := "7b399b855de90f41703f9b455f1ddfd049718b3c221b976eba7c73390d635705", func := "horarium/horariumlaw12.PersonLeaves", spec := "personLeaves", unfollowed := true, recurses := true, apart := false, narrowed := true }
def PersonLeavesUptoSaid : Prop := personLeavesUptoRow.holds Try.pinned (OpenSpec.upto personLeavesSpec)

/-- 'horariumlaw12.PersonTells', WHERE WHAT IT READS IS OF BULK AT MOST 1048576: true; the input reads as it did. -/
def personTellsUptoRow : OpenClaim := { program := "ytcdcocnljnlkfaa", sum := "7b399b855de90f41703f9b455f1ddfd049718b3c221b976eba7c73390d635705", func := "horarium/horariumlaw12.PersonTells", spec := "personTells", unfollowed := true, recurses := true, apart := false, narrowed := true }
def PersonTellsUptoSaid : Prop := personTellsUptoRow.holds Try.pinned (OpenSpec.upto personTellsSpec)

/-- 'horariumlaw12.PersonReach', WHERE WHAT IT READS IS OF BULK AT MOST 1048576: true; the input reads as it did. -/
def personReachUptoRow : OpenClaim := { program := "ytcdcocnljnlkfaa", sum := "7b399b855de90f41703f9b455f1ddfd049718b3c221b976eba7c73390d635705", func := "horarium/horariumlaw12.PersonReach", spec := "personReach", unfollowed := true, recurses := true, apart := false, narrowed := true }
def PersonReachUptoSaid : Prop := personReachUptoRow.holds Try.pinned (OpenSpec.upto personReachSpec)

/-- 'horariumlaw12.PersonDays', WHERE WHAT IT READS IS OF BULK AT MOST 1048576: true; the input reads as it did. -/
def personDaysUptoRow : OpenClaim := { program := "ytcdcocnljnlkfaa", sum := "7b399b855de90f41703f9b455f1ddfd049718b3c221b976eba7c73390d635705", func := "horarium/horariumlaw12.PersonDays", spec := "personDays", unfollowed := true, recurses := true, apart := false, narrowed := true }
def PersonDaysUptoSaid : Prop := personDaysUptoRow.holds Try.pinned (OpenSpec.upto personDaysSpec)

/-- 'horariumlaw12.PersonSpreads', WHERE WHAT IT READS IS OF BULK AT MOST 1048576: true; the input reads as it did. -/
def personSpreadsUptoRow : OpenClaim := { program := "ytcdcocnljnlkfaa", sum := "7b399b855de90f41703f9b455f1ddfd049718b3c221b976eba7c73390d635705", func := "horarium/horariumlaw12.PersonSpreads", spec := "personSpreads", unfollowed := true, recurses := true, apart := false, narrowed := true }
def PersonSpreadsUptoSaid : Prop := personSpreadsUptoRow.holds Try.pinned (OpenSpec.upto personSpreadsSpec)

/-- 'horariumlaw12.PersonBusy', WHERE WHAT IT READS IS OF BULK AT MOST 1048576: true; the input reads as it did. -/
def personBusyUptoRow : OpenClaim := { program := "ytcdcocnljnlkfaa", sum := "7b399b855de90f41703f9b455f1ddfd049718b3c221b976eba7c73390d635705", func := "horarium/horariumlaw12.PersonBusy", spec := "personBusy", unfollowed := true, recurses := true, apart := false, narrowed := true }
def PersonBusyUptoSaid : Prop := personBusyUptoRow.holds Try.pinned (OpenSpec.upto personBusySpec)

end Rows
end Go.Proofs.Ytcdcocnljnlkfaa
