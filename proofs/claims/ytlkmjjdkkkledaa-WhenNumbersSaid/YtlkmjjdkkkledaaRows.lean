/-
  No cell of these rows narrows 'for every input' (looked for: loops, veiled, ifaces, maps, wideKeys, modest, calm, conditions, laid).
  DERIVED. THE GIVEN ROWS OF THIS SEAT. 5 by the template 'for every input the law returns true; each argument reads behind the call as it read before'; 0 by the template 'total and deterministic' (their statements: YtlkmjjdkkkledaaTotals.lean).
  GIVEN WITH THE SEED: the statements are not yours to turn. If you find one false, say at which input.
  Laid BY PROGRAM, IN A SANDBOX (cutbox-rows.mjs): the forced cells as the released guide's own fill.sh prints them over the translation 6bb9532068aa17da… (all of the seat's roots in one cut). By AI agents, Wed Nov 11 2026. No macro, syntax, notation, axiom, sorry.
-/
import Derived.Test.YtlkmjjdkkkledaaChecked
import GoSem.Claim
import GoSem.ClaimJoined
import GoSem.ClaimMapViews
import Derived.JoinedTies
import Derived.KernelRfl
namespace Go.Proofs.Ytlkmjjdkkkledaa
/- THE CELL 'sum', in the pinned program and in every row, IS THE sha256 OF THE DUMP (.gsa) THAT YtlkmjjdkkkledaaProg.lean LOADS. Nothing in Lean hashes anything: it is a label: what it is worth is what the hold of that sum in a sandbox is worth. -/
noncomputable def Try.pinned : Pinned := { name := "ytlkmjjdkkkledaa", sum := "6bb9532068aa17da11d2425036468c3784f78e3007a4a1e5ef66e4b5e55bd4a1", checked := Try.checked }
namespace Rows
def none {H : Type} : Left H := { results := [], args := [] }

/-- 'horariumlaw09.WhenTells': WHATEVER THE INPUT: true; the input reads as it did. -/
def whenTellsSpec : ChangeSpec := { name := "whenTells", fn := fun _ => fun
  | [d1, d2] => { results := [.lit (.bool true)], args := [d1, d2] }
  | _ => none }
def whenTellsRow : OpenClaim := { program := "ytlkmjjdkkkledaa", sum := "6bb9532068aa17da11d2425036468c3784f78e3007a4a1e5ef66e4b5e55bd4a1", func := "horarium/horariumlaw09.WhenTells", spec := "whenTells", apart := false }
def WhenTellsSaid : Prop := whenTellsRow.holds Try.pinned (OpenSpec.ofChange whenTellsSpec)

/-- ITS FALSE NEIGHBOUR: 'it returns false'. Refute it at one input. -/
def whenTellsWrong : ChangeSpec := { name := "whenTells", fn := fun _ => fun
  | [d1, d2] => { results := [.lit (.bool false)], args := [d1, d2] }
  | _ => none }
def WhenTellsWrongFalsely : Prop := whenTellsRow.holds Try.pinned (OpenSpec.ofChange whenTellsWrong)

/-- 'horariumlaw09.WhenMeets': WHATEVER THE INPUT: true; the input reads as it did. -/
def whenMeetsSpec : ChangeSpec := { name := "whenMeets", fn := fun _ => fun
  | [d1, d2, d3] => { results := [.lit (.bool true)], args := [d1, d2, d3] }
  | _ => none }
def whenMeetsRow : OpenClaim := { program := "ytlkmjjdkkkledaa", sum := "6bb9532068aa17da11d2425036468c3784f78e3007a4a1e5ef66e4b5e55bd4a1", func := "horarium/horariumlaw09.WhenMeets", spec := "whenMeets", apart := false }
def WhenMeetsSaid : Prop := whenMeetsRow.holds Try.pinned (OpenSpec.ofChange whenMeetsSpec)

/-- ITS FALSE NEIGHBOUR: 'it returns false'. Refute it at one input. -/
def whenMeetsWrong : ChangeSpec := { name := "whenMeets", fn := fun _ => fun
  | [d1, d2, d3] => { results := [.lit (.bool false)], args := [d1, d2, d3] }
  | _ => none }
def WhenMeetsWrongFalsely : Prop := whenMeetsRow.holds Try.pinned (OpenSpec.ofChange whenMeetsWrong)

/-- 'horariumlaw09.WhenApart': WHATEVER THE INPUT: true; the input reads as it did. -/
def whenApartSpec : ChangeSpec := { name := "whenApart", fn := fun _ => fun
  | [d1, d2] => { results := [.lit (.bool true)], args := [d1, d2] }
  | _ => none }
def whenApartRow : OpenClaim := { program := "ytlkmjjdkkkledaa", sum := "6bb9532068aa17da11d2425036468c3784f78e3007a4a1e5ef66e4b5e55bd4a1", func := "horarium/horariumlaw09.WhenApart", spec := "whenApart", apart := false }
def WhenApartSaid : Prop := whenApartRow.holds Try.pinned (OpenSpec.ofChange whenApartSpec)

/-- ITS FALSE NEIGHBOUR: 'it returns false'. Refute it at one input. -/
def whenApartWrong : ChangeSpec := { name := "whenApart", fn := fun _ => fun
  | [d1, d2] => { results := [.lit (.bool false)], args := [d1, d2] }
  | _ => none }
def WhenApartWrongFalsely : Prop := whenApartRow.holds Try.pinned (OpenSpec.ofChange whenApartWrong)

/-- 'horariumlaw09.WhenNumbers': WHATEVER THE INPUT: true; the input reads as it did. -/
def whenNumbersSpec : ChangeSpec := { name := "whenNumbers", fn := fun _ => fun
  | [d1, d2, d3] => { results := [.lit (.bool true)], args := [d1, d2, d3] }
  | _ => none }
def whenNumbersRow : OpenClaim := { program := "ytlkmjjdkkkledaa", sum := "6bb9532068aa17da11d2425036468c3784f78e3007a4a1e5ef66e4b5e55bd4a1", func := "horarium/horariumlaw09.WhenNumbers", spec := "whenNumbers", apart := false }
def WhenNumbersSaid : Prop := whenNumbersRow.holds Try.pinned (OpenSpec.ofChange whenNumbersSpec)

/-- ITS FALSE NEIGHBOUR: 'it returns false'. Refute it at one input. -/
def whenNumbersWrong : ChangeSpec := { name := "whenNumbers", fn := fun _ => fun
  | [d1, d2, d3] => { results := [.lit (.bool false)], args := [d1, d2, d3] }
  | _ => none }
def WhenNumbersWrongFalsely : Prop := whenNumbersRow.holds Try.pinned (OpenSpec.ofChange whenNumbersWrong)

/-- 'horariumlaw09.WhenPairs': WHATEVER THE INPUT: true; the input reads as it did. -/
def whenPairsSpec : ChangeSpec := { name := "whenPairs", fn := fun _ => fun
  | [d1, d2] => { results := [.lit (.bool true)], args := [d1, d2] }
  | _ => none }
def whenPairsRow : OpenClaim := { program := "ytlkmjjdkkkledaa", sum := "6bb9532068aa17da11d2425036468c3784f78e3007a4a1e5ef66e4b5e55bd4a1", func := "horarium/horariumlaw09.WhenPairs", spec := "whenPairs", apart := false }
def WhenPairsSaid : Prop := whenPairsRow.holds Try.pinned (OpenSpec.ofChange whenPairsSpec)

/-- ITS FALSE NEIGHBOUR: 'it returns false'. Refute it at one input. -/
def whenPairsWrong : ChangeSpec := { name := "whenPairs", fn := fun _ => fun
  | [d1, d2] => { results := [.lit (.bool false)], args := [d1, d2] }
  | _ => none }
def WhenPairsWrongFalsely : Prop := whenPairsRow.holds Try.pinned (OpenSpec.ofChange whenPairsWrong)

/- THE SECOND FORM. 'bulk': how many values and letters a reading holds, each counted each time it is reached (what is shared counts as often as it is met; a slice's spare places count too). A statement '..UptoSaid' is the law's where the arguments, and the package variables that the reading takes, are together of bulk at most 1048576: NARROWER than '..Said'. Prove '..Said' where nothing that the law and all that it calls make is longer than what came in: it says more and counts as full. Else prove '..UptoSaid'. A law counts once. -/
mutual
def uptoBulk {H : Type} : DataW H → Nat
  | .lit (.string bytes) => bytes.length + 1
  | .lit _ => 1
  | .nil => 1
  | .ptr d => uptoBulk d + 1
  | .slice elems spare => uptoBulkAll elems + uptoBulkAll spare + 1
  | .agg parts => uptoBulkAll parts + 1
  | .iface _ d => uptoBulk d + 1
  | .map entries => uptoBulkEntries entries + 1
  | .held _ => 1
def uptoBulkAll {H : Type} : List (DataW H) → Nat
  | [] => 0
  | d :: r => uptoBulk d + uptoBulkAll r
def uptoBulkEntries {H : Type} : List (Lit × DataW H) → Nat
  | [] => 0
  | x :: r => uptoBulkEntry x + uptoBulkEntries r
def uptoBulkEntry {H : Type} : Lit × DataW H → Nat
  | (.string bytes, d) => bytes.length + uptoBulk d + 1
  | (_, d) => uptoBulk d + 1
 end
def uptoSmall : (H : Type) → List (DataW H) → Bool := fun _ ds => decide (uptoBulkAll ds ≤ 1048576)
def OpenSpec.upto (s : _root_.Go.ChangeSpec) : _root_.Go.OpenSpec := { _root_.Go.OpenSpec.ofChange s with cond := some uptoSmall }

/-- 'horariumlaw09.WhenTells', WHERE WHAT IT READS IS OF BULK AT MOST 1048576: true; the input reads as it did. -/
def whenTellsUptoRow : OpenClaim := { program := "ytlkmjjdkkkledaa", sum := "6bb9532068aa17da11d2425036468c3784f78e3007a4a1e5ef66e4b5e55bd4a1", func := "horarium/horariumlaw09.WhenTells", spec := "whenTells", apart := false, narrowed := true }
def WhenTellsUptoSaid : Prop := whenTellsUptoRow.holds Try.pinned (OpenSpec.upto whenTellsSpec)

/-- 'horariumlaw09.WhenMeets', WHERE WHAT IT READS IS OF BULK AT MOST 1048576: true; the input reads as it did. -/
def whenMeetsUptoRow : OpenClaim := { program := "ytlkmjjdkkkledaa", sum := "6bb9532068aa17da11d2425036468c3784f78e3007a4a1e5ef66e4b5e55bd4a1", func := "horarium/horariumlaw09.WhenMeets", spec := "whenMeets", apart := false, narrowed := true }
def WhenMeetsUptoSaid : Prop := whenMeetsUptoRow.holds Try.pinned (OpenSpec.upto whenMeetsSpec)

/-- 'horariumlaw09.WhenApart', WHERE WHAT IT READS IS OF BULK AT MOST 1048576: true; the input reads as it did. -/
def whenApartUptoRow : OpenClaim := { program := "ytlkmjjdkkkledaa", sum := "6bb9532068aa17da11d2425036468c3784f78e3007a4a1e5ef66e4b5e55bd4a1", func := "horarium/horariumlaw09.WhenApart", spec := "whenApart", apart := false, narrowed := true }
def WhenApartUptoSaid : Prop := whenApartUptoRow.holds Try.pinned (OpenSpec.upto whenApartSpec)

/-- 'horariumlaw09.WhenNumbers', WHERE WHAT IT READS IS OF BULK AT MOST 1048576: true; the input reads as it did. -/
def whenNumbersUptoRow : OpenClaim := { program := "ytlkmjjdkkkledaa", sum := "6bb9532068aa17da11d2425036468c3784f78e3007a4a1e5ef66e4b5e55bd4a1", func := "horarium/horariumlaw09.WhenNumbers", spec := "whenNumbers", apart := false, narrowed := true }
def WhenNumbersUptoSaid : Prop := whenNumbersUptoRow.holds Try.pinned (OpenSpec.upto whenNumbersSpec)

/-- 'horariumlaw09.WhenPairs', WHERE WHAT IT READS IS OF BULK AT MOST 1048576: true; the input reads as it did. -/
def whenPairsUptoRow : OpenClaim := { program := "ytlkmjjdkkkledaa", sum := "6bb9532068aa17da11d2425036468c3784f78e3007a4a1e5ef66e4b5e55bd4a1", func := "horarium/horariumlaw09.WhenPairs", spec := "whenPairs", apart := false, narrowed := true }
def WhenPairsUptoSaid : Prop := whenPairsUptoRow.holds Try.pinned (OpenSpec.upto whenPairsSpec)

end Rows
end Go.Proofs.Ytlkmjjdkkkledaa
