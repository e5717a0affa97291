/-
  No cell of these rows narrows 'for every input' (looked for: loops, veiled, ifaces, maps, wideKeys, modest, calm, conditions, laid).
  DERIVED. THE GIVEN ROWS OF THIS SEAT. 6 by the template 'for every input the law returns true; each argument reads behind the call as it read before'; 0 by the template 'total and deterministic' (their statements: YtddheiloodfkdaaTotals.lean).
  GIVEN WITH THE SEED: the statements are not yours to turn. If you find one false, say at which input.
  Laid BY PROGRAM, IN A SANDBOX (cutbox-rows.mjs): the forced cells as the released guide's own fill.sh prints them over the translation ec8995d7359a6a0a… (all of the seat's roots in one cut). By AI agents, Wed Nov 11 2026. No macro, syntax, notation, axiom, sorry.
-/
import Derived.Test.YtddheiloodfkdaaChecked
import GoSem.Claim
import GoSem.ClaimJoined
import GoSem.ClaimMapViews
import Derived.JoinedTies
import Derived.KernelRfl
namespace Go.Proofs.Ytddheiloodfkdaa
/- THE CELL 'sum', in the pinned program and in every row, IS THE sha256 OF THE DUMP (.gsa) THAT YtddheiloodfkdaaProg.lean LOADS. Nothing in Lean hashes anything: it is a label: what it is worth is what the hold of that sum in a sandbox is worth. -/
noncomputable def Try.pinned : Pinned := { name := "ytddheiloodfkdaa", sum := "ec8995d7359a6a0a61d6d4bf1ad3af054130f866142e2a7116ab00364297d064", checked := Try.checked }
namespace Rows
def none {H : Type} : Left H := { results := [], args := [] }

/-- 'horariumlaw15.PairOthers': WHATEVER THE INPUT: true; the input reads as it did. -/
def pairOthersSpec : ChangeSpec := { name := "pairOthers", fn := fun _ => fun
  | [d1, d2, d3] => { results := [.lit (.bool true)], args := [d1, d2, d3] }
  | _ => none }
def pairOthersRow : OpenClaim := { program := "ytddheiloodfkdaa", sum := "ec8995d7359a6a0a61d6d4bf1ad3af054130f866142e2a7116ab00364297d064", func := "horarium/horariumlaw15.PairOthers", spec := "pairOthers", unfollowed := true, recurses := true, apart := false }
def PairOthersSaid : Prop := pairOthersRow.holds Try.pinned (OpenSpec.ofChange pairOthersSpec)

/-- ITS FALSE NEIGHBOUR: 'it returns false'. Refute it at one input. -/
def pairOthersWrong : ChangeSpec := { name := "pairOthers", fn := fun _ => fun
  | [d1, d2, d3] => { results := [.lit (.bool false)], args := [d1, d2, d3] }
  | _ => none }
def PairOthersWrongFalsely : Prop := pairOthersRow.holds Try.pinned (OpenSpec.ofChange pairOthersWrong)

/-- 'horariumlaw15.PairHolds': WHATEVER THE INPUT: true; the input reads as it did. -/
def pairHoldsSpec : ChangeSpec := { name := "pairHolds", fn := fun _ => fun
  | [d1, d2, d3, d4, d5, d6] => { results := [.lit (.bool true)], args := [d1, d2, d3, d4, d5, d6] }
  | _ => none }
def pairHoldsRow : OpenClaim := { program := "ytddheiloodfkdaa", sum := "ec8995d7359a6a0a61d6d4bf1ad3af054130f866142e2a7116ab00364297d064", func := "horarium/horariumlaw15.PairHolds", spec := "pairHolds", unfollowed := true, recurses := true, apart := false }
def PairHoldsSaid : Prop := pairHoldsRow.holds Try.pinned (OpenSpec.ofChange pairHoldsSpec)

/-- ITS FALSE NEIGHBOUR: 'it returns false'. Refute it at one input. -/
def pairHoldsWrong : ChangeSpec := { name := "pairHolds", fn := fun _ => fun
  | [d1, d2, d3, d4, d5, d6] => { results := [.lit (.bool false)], args := [d1, d2, d3, d4, d5, d6] }
  | _ => none }
def PairHoldsWrongFalsely : Prop := pairHoldsRow.holds Try.pinned (OpenSpec.ofChange pairHoldsWrong)

/-- 'horariumlaw15.PairNever': WHATEVER THE INPUT: true; the input reads as it did. -/
def pairNeverSpec : ChangeSpec := { name := "pairNever", fn := fun _ => fun
  | [d1, d2, d3, d4, d5, d6] => { results := [.lit (.bool true)], args := [d1, d2, d3, d4, d5, d6] }
  | _ => none }
def pairNeverRow : OpenClaim := { program := "ytddheiloodfkdaa", sum := "ec8995d7359a6a0a61d6d4bf1ad3af054130f866142e2a7116ab00364297d064", func := "horarium/horariumlaw15.PairNever", spec := "pairNever", unfollowed := true, recurses := true, apart := false }
def PairNeverSaid : Prop := pairNeverRow.holds Try.pinned (OpenSpec.ofChange pairNeverSpec)

/-- ITS FALSE NEIGHBOUR: 'it returns false'. Refute it at one input. -/
def pairNeverWrong : ChangeSpec := { name := "pairNever", fn := fun _ => fun
  | [d1, d2, d3, d4, d5, d6] => { results := [.lit (.bool false)], args := [d1, d2, d3, d4, d5, d6] }
  | _ => none }
def PairNeverWrongFalsely : Prop := pairNeverRow.holds Try.pinned (OpenSpec.ofChange pairNeverWrong)

/-- 'horariumlaw15.PairKnows': WHATEVER THE INPUT: true; the input reads as it did. -/
def pairKnowsSpec : ChangeSpec := { name := "pairKnows", fn := fun _ => fun
  | [d1, d2, d3, d4, d5, d6] => { results := [.lit (.bool true)], args := [d1, d2, d3, d4, d5, d6] }
  | _ => none }
def pairKnowsRow : OpenClaim := { program := "ytddheiloodfkdaa", sum := "ec8995d7359a6a0a61d6d4bf1ad3af054130f866142e2a7116ab00364297d064", func := "horarium/horariumlaw15.PairKnows", spec := "pairKnows", unfollowed := true, recurses := true, apart := false }
def PairKnowsSaid : Prop := pairKnowsRow.holds Try.pinned (OpenSpec.ofChange pairKnowsSpec)

/-- ITS FALSE NEIGHBOUR: 'it returns false'. Refute it at one input. -/
def pairKnowsWrong : ChangeSpec := { name := "pairKnows", fn := fun _ => fun
  | [d1, d2, d3, d4, d5, d6] => { results := [.lit (.bool false)], args := [d1, d2, d3, d4, d5, d6] }
  | _ => none }
def PairKnowsWrongFalsely : Prop := pairKnowsRow.holds Try.pinned (OpenSpec.ofChange pairKnowsWrong)

/-- 'horariumlaw15.PairKinds': WHATEVER THE INPUT: true; the input reads as it did. -/
def pairKindsSpec : ChangeSpec := { name := "pairKinds", fn := fun _ => fun
  | [d1, d2] => { results := [.lit (.bool true)], args := [d1, d2] }
  | _ => none }
def pairKindsRow : OpenClaim := { program := "ytddheiloodfkdaa", sum := "ec8995d7359a6a0a61d6d4bf1ad3af054130f866142e2a7116ab00364297d064", func := "horarium/horariumlaw15.PairKinds", spec := "pairKinds", unfollowed := true, recurses := true, apart := false }
def PairKindsSaid : Prop := pairKindsRow.holds Try.pinned (OpenSpec.ofChange pairKindsSpec)

/-- ITS FALSE NEIGHBOUR: 'it returns false'. Refute it at one input. -/
def pairKindsWrong : ChangeSpec := { name := "pairKinds", fn := fun _ => fun
  | [d1, d2] => { results := [.lit (.bool false)], args := [d1, d2] }
  | _ => none }
def PairKindsWrongFalsely : Prop := pairKindsRow.holds Try.pinned (OpenSpec.ofChange pairKindsWrong)

/-- 'horariumlaw15.PairTurns': WHATEVER THE INPUT: true; the input reads as it did. -/
def pairTurnsSpec : ChangeSpec := { name := "pairTurns", fn := fun _ => fun
  | [d1, d2, d3, d4, d5, d6] => { results := [.lit (.bool true)], args := [d1, d2, d3, d4, d5, d6] }
  | _ => none }
def pairTurnsRow : OpenClaim := { program := "ytddheiloodfkdaa", sum := "ec8995d7359a6a0a61d6d4bf1ad3af054130f866142e2a7116ab00364297d064", func := "horarium/horariumlaw15.PairTurns", spec := "pairTurns", unfollowed := true, recurses := true, apart := false }
def PairTurnsSaid : Prop := pairTurnsRow.holds Try.pinned (OpenSpec.ofChange pairTurnsSpec)

/-- ITS FALSE NEIGHBOUR: 'it returns false'. Refute it at one input. -/
def pairTurnsWrong : ChangeSpec := { name := "pairTurns", fn := fun _ => fun
  | [d1, d2, d3, d4, d5, d6] => { results := [.lit (.bool false)], args := [d1, d2, d3, d4, d5, d6] }
  | _ => none }
def PairTurnsWrongFalsely : Prop := pairTurnsRow.holds Try.pinned (OpenSpec.ofChange pairTurnsWrong)

/- THE SECOND FORM. 'bulk': how many values and letters a reading holds, each counted each time it is reached (what is shared counts as often as it is met; a slice's spare places count too). A statement '..UptoSaid' is the law's where the arguments, and the package variables that the reading takes, are together of bulk at most 1048576: NARROWER than '..Said'. Prove '..Said' where nothing that the law and all that it calls make is longer than what came in: it says more and counts as full. Else prove '..UptoSaid'. A law counts once. -/
mutual
def uptoBulk {H : Type} : DataW H → Nat
  | .lit (.string bytes) => bytes.length + 1
  | .lit _ => 1
  | .nil => 1
  | .ptr d => uptoBulk d + 1
  | .slice elems spare => uptoBulkAll elems + uptoBulkAll spare + 1
  | .agg parts => uptoBulkAll parts + 1
  | .iface _ d => uptoBulk d + 1
  | .map entries => uptoBulkEntries entries + 1
  | .held _ => 1
def uptoBulkAll {H : Type} : List (DataW H) → Nat
  | [] => 0
  | d :: r => uptoBulk d + uptoBulkAll r
def uptoBulkEntries {H : Type} : List (Lit × DataW H) → Nat
  | [] => 0
  | x :: r => uptoBulkEntry x + uptoBulkEntries r
def uptoBulkEntry {H : Type} : Lit × DataW H → Nat
  | (.string bytes, d) => bytes.length + uptoBulk d + 1
  | (_, d) => uptoBulk d + 1
 end
def uptoSmall : (H : Type) → List (DataW H) → Bool := fun _ ds => decide (uptoBulkAll ds ≤ 1048576)
def OpenSpec.upto (s : _root_.Go.ChangeSpec) : _root_.Go.OpenSpec := { _root_.Go.OpenSpec.ofChange s with cond := some uptoSmall }

/-- 'horariumlaw15.PairOthers', WHERE WHAT IT READS IS OF BULK AT MOST 1048576: true; the input reads as it did. -/
def pairOthersUptoRow : OpenClaim := { program := "ytddheiloodfkdaa", sum := "ec8995d7359a6a0a61d6d4bf1ad3af054130f866142e2a7116ab00364297d064", func := "horarium/horariumlaw15.PairOthers", spec := "pairOthers", unfollowed := true, recurses := true, apart := false, narrowed := true }
def PairOthersUptoSaid : Prop := pairOthersUptoRow.holds Try.pinned (OpenSpec.upto pairOthersSpec)

/-- 'horariumlaw15.PairHolds', WHERE WHAT IT READS IS OF BULK AT MOST 1048576: true; the input reads as it did. -/
def pairHoldsUptoRow : OpenClaim := { program := "ytddheiloodfkdaa", sum := "ec8995d7359a6a0a61d6d4bf1ad3af054130f866142e2a7116ab00364297d064", func := "horarium/horariumlaw15.PairHolds", spec := "pairHolds", unfollowed := true, recurses := true, apart := false, narrowed := true }
def PairHoldsUptoSaid : Prop := pairHoldsUptoRow.holds Try.pinned (OpenSpec.upto pairHoldsSpec)

/-- 'horariumlaw15.PairNever', WHERE WHAT IT READS IS OF BULK AT MOST 1048576: true; the input reads as it did. -/
def pairNeverUptoRow : OpenClaim := { program := "ytddheiloodfkdaa", sum := "ec8995d7359a6a0a61d6d4bf1ad3af054130f866142e2a7116ab00364297d064", func := "horarium/horariumlaw15.PairNever", spec := "pairNever", unfollowed := true, recurses := true, apart := false, narrowed := true }
def PairNeverUptoSaid : Prop := pairNeverUptoRow.holds Try.pinned (OpenSpec.upto pairNeverSpec)

/-- 'horariumlaw15.PairKnows', WHERE WHAT IT READS IS OF BULK AT MOST 1048576: true; the input reads as it did. -/
def pairKnowsUptoRow : OpenClaim := { program := "ytddheiloodfkdaa", sum := "ec8995d7359a6a0a61d6d4bf1ad3af054130f866142e2a7116ab00364297d064", func := "horarium/horariumlaw15.PairKnows", spec := "pairKnows", unfollowed := true, recurses := true, apart := false, narrowed := true }
def PairKnowsUptoSaid : Prop := pairKnowsUptoRow.holds Try.pinned (OpenSpec.upto pairKnowsSpec)

/-- 'horariumlaw15.PairKinds', WHERE WHAT IT READS IS OF BULK AT MOST 1048576: true; the input reads as it did. -/
def pairKindsUptoRow : OpenClaim := { program := "ytddheiloodfkdaa", sum := "ec8995d7359a6a0a61d6d4bf1ad3af054130f866142e2a7116ab00364297d064", func := "horarium/horariumlaw15.PairKinds", spec := "pairKinds", unfollowed := true, recurses := true, apart := false, narrowed := true }
def PairKindsUptoSaid : Prop := pairKindsUptoRow.holds Try.pinned (OpenSpec.upto pairKindsSpec)

/-- 'horariumlaw15.PairTurns', WHERE WHAT IT READS IS OF BULK AT MOST 1048576: true; the input reads as it did. -/
def pairTurnsUptoRow : OpenClaim := { program := "ytddheiloodfkdaa", sum := "ec8995d7359a6a0a61d6d4bf1ad3af054130f866142e2a7116ab00364297d064", func := "horarium/horariumlaw15.PairTurns", spec := "pairTurns", unfollowed := true, recurses := true, apart := false, narrowed := true }
def PairTurnsUptoSaid : Prop := pairTurnsUptoRow.holds Try.pinned (OpenSpec.upto pairTurnsSpec)

end Rows
end Go.Proofs.Ytddheiloodfkdaa
