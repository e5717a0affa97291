-- Written by a program of this claim's prover; Lean checks it.
import Derived.Test.YtlkmjjdkkkledaaProg
import Derived.Test.YtlkmjjdkkkledaaV
import Derived.Below
import Derived.Deep.Draws
import Derived.Deep.AppendLies
import Derived.Maps.AppendAt
import Derived.OwnWalk
import Derived.Laws.BytesArg
import Derived.Laws.MakeOwn
import Derived.Laws.OwnMore
import Derived.Deep.OwnRows
import Derived.Tactics
import Derived.Lib.ConvBytes
import Derived.Laws.Slices
import Derived.WalkKit
import Derived.KernelRfl
import Derived.RowKit3
import Derived.Deep.LoopGhost
import Derived.Deep.QuietTactic
import Derived.BigQuiet
import Derived.WideLaws
import Derived.Deep.DeepCutAuto
import Derived.Deep.CutBlock
import Derived.Deep.RegionHeld3
import Derived.Laws.Rows
import Derived.Lib.AppendStr
import Derived.ArgAppend
import Derived.Laws.IdiomCopy
import Derived.OrdersHeld
import Derived.Laws.BitsLemmas
import Derived.RowKit
namespace Go.Proofs.Ytlkmjjdkkkledaa.Q
open Go.RowKit Go.Proofs.YtlkmjjdkkkledaaW.PrintWords Go.Proofs.YtlkmjjdkkkledaaW.PrintLast Go.Proofs.YtlkmjjdkkkledaaW.PrintMore
attribute [local go_sem] max2_int min2_int max_two min_two max_three min_three max_four min_four   -- for this text's walks alone
set_option linter.unusedVariables false
set_option linter.unusedSimpArgs false

theorem pz_no {b : Bool} {n : Nat} (h : ¬ ((b != (decide ((n : Int) > 0))) = true)) : decide (0 < n) = b := by
  by_cases hn : 0 < n <;> cases b <;> simp_all
theorem pz_yes {b : Bool} {n : Nat} (h : (b != (decide ((n : Int) > 0))) = true) : decide (0 < n) = !b := by
  by_cases hn : 0 < n <;> cases b <;> simp_all
theorem pq_no {b : Bool} {m n : Nat} (h : ¬ ((b != ((m : Int) == (n : Int))) = true)) : (m == n) = b := by
  by_cases hn : m = n <;> cases b <;> simp_all <;> omega
theorem pq_yes {b : Bool} {m n : Nat} (h : (b != ((m : Int) == (n : Int))) = true) : (m == n) = !b := by
  by_cases hn : m = n <;> cases b <;> simp_all <;> omega


def errW : Option Int → Value
  | none => .nilIface
  | some c => .iface 0 (.int .i64 c)
theorem errW_none : errW none = .nilIface := rfl
theorem errW_some (c : Int) : errW (some c) = .iface 0 (.int .i64 c) := rfl

theorem info3 : (Try.prog.info? 3).map (fun i => (i.zero, i.size, i.bytes)) = some (some (.int .i64 0), 1, 8) := by kernel_rfl
-- the values' own types

end Go.Proofs.Ytlkmjjdkkkledaa.Q
