/-
  No cell of these rows narrows 'for every input' (looked for: loops, veiled, ifaces, maps, wideKeys, modest, calm, conditions, laid).
  DERIVED. THE GIVEN ROWS OF THIS SEAT. 6 by the template 'for every input the law returns true; each argument reads behind the call as it read before'; 0 by the template 'total and deterministic' (their statements: YtdbbmnhaiejnjaaTotals.lean).
  GIVEN WITH THE SEED: the statements are not yours to turn. If you find one false, say at which input.
  Laid BY PROGRAM, IN A SANDBOX (cutbox-rows.mjs): the forced cells as the released guide's own fill.sh prints them over the translation d55df09d291858d0… (all of the seat's roots in one cut). By AI agents, Wed Nov 11 2026. No macro, syntax, notation, axiom, sorry.
-/
import Derived.Test.YtdbbmnhaiejnjaaChecked
import GoSem.Claim
import GoSem.ClaimJoined
import GoSem.ClaimMapViews
import Derived.JoinedTies
import Derived.KernelRfl
namespace Go.Proofs.Ytdbbmnhaiejnjaa
/- THE CELL 'sum', in the pinned program and in every row, IS THE sha256 OF THE DUMP (.gsa) THAT YtdbbmnhaiejnjaaProg.lean LOADS. Nothing in Lean hashes anything: it is a label: what it is worth is what the hold of that sum in a sandbox is worth. -/
noncomputable def Try.pinned : Pinned := { name := "ytdbbmnhaiejnjaa", sum := "d55df09d291858d0c70d07c2e093b9f0b45a10ceb0bc4e408abc36ce4945e0c6", checked := Try.checked }
namespace Rows
def none {H : Type} : Left H := { results := [], args := [] }

/-- 'horariumlaw11.RoomWalks': WHATEVER THE INPUT: true; the input reads as it did. -/
def roomWalksSpec : ChangeSpec := { name := "roomWalks", fn := fun _ => fun
  | [d1, d2, d3, d4] => { results := [.lit (.bool true)], args := [d1, d2, d3, d4] }
  | _ => none }
def roomWalksRow : OpenClaim := { program := "ytdbbmnhaiejnjaa", sum := "d55df09d291858d0c70d07c2e093b9f0b45a10ceb0bc4e408abc36ce4945e0c6", func := "horarium/horariumlaw11.RoomWalks", spec := "roomWalks", unfollowed := true, recurses := true, apart := false }
def RoomWalksSaid : Prop := roomWalksRow.holds Try.pinned (OpenSpec.ofChange roomWalksSpec)

/-- ITS FALSE NEIGHBOUR: 'it returns false'. Refute it at one input. -/
def roomWalksWrong : ChangeSpec := { name := "roomWalks", fn := fun _ => fun
  | [d1, d2, d3, d4] => { results := [.lit (.bool false)], args := [d1, d2, d3, d4] }
  | _ => none }
def RoomWalksWrongFalsely : Prop := roomWalksRow.holds Try.pinned (OpenSpec.ofChange roomWalksWrong)

/-- 'horariumlaw11.RoomSames': WHATEVER THE INPUT: true; the input reads as it did. -/
def roomSamesSpec : ChangeSpec := { name := "roomSames", fn := fun _ => fun
  | [d1, d2] => { results := [.lit (.bool true)], args := [d1, d2] }
  | _ => none }
def roomSamesRow : OpenClaim := { program := "ytdbbmnhaiejnjaa", sum := "d55df09d291858d0c70d07c2e093b9f0b45a10ceb0bc4e408abc36ce4945e0c6", func := "horarium/horariumlaw11.RoomSames", spec := "roomSames", unfollowed := true, recurses := true, apart := false }
def RoomSamesSaid : Prop := roomSamesRow.holds Try.pinned (OpenSpec.ofChange roomSamesSpec)

/-- ITS FALSE NEIGHBOUR: 'it returns false'. Refute it at one input. -/
def roomSamesWrong : ChangeSpec := { name := "roomSames", fn := fun _ => fun
  | [d1, d2] => { results := [.lit (.bool false)], args := [d1, d2] }
  | _ => none }
def RoomSamesWrongFalsely : Prop := roomSamesRow.holds Try.pinned (OpenSpec.ofChange roomSamesWrong)

/-- 'horariumlaw11.RoomTells': WHATEVER THE INPUT: true; the input reads as it did. -/
def roomTellsSpec : ChangeSpec := { name := "roomTells", fn := fun _ => fun
  | [d1, d2, d3, d4, d5] => { results := [.lit (.bool true)], args := [d1, d2, d3, d4, d5] }
  | _ => none }
def roomTellsRow : OpenClaim := { program := "ytdbbmnhaiejnjaa", sum := "d55df09d291858d0c70d07c2e093b9f0b45a10ceb0bc4e408abc36ce4945e0c6", func := "horarium/horariumlaw11.RoomTells", spec := "roomTells", unfollowed := true, recurses := true, apart := false }
def RoomTellsSaid : Prop := roomTellsRow.holds Try.pinned (OpenSpec.ofChange roomTellsSpec)

/-- ITS FALSE NEIGHBOUR: 'it returns false'. Refute it at one input. -/
def roomTellsWrong : ChangeSpec := { name := "roomTells", fn := fun _ => fun
  | [d1, d2, d3, d4, d5] => { results := [.lit (.bool false)], args := [d1, d2, d3, d4, d5] }
  | _ => none }
def RoomTellsWrongFalsely : Prop := roomTellsRow.holds Try.pinned (OpenSpec.ofChange roomTellsWrong)

/-- 'horariumlaw11.RoomOpens': WHATEVER THE INPUT: true; the input reads as it did. -/
def roomOpensSpec : ChangeSpec := { name := "roomOpens", fn := fun _ => fun
  | [d1, d2, d3] => { results := [.lit (.bool true)], args := [d1, d2, d3] }
  | _ => none }
def roomOpensRow : OpenClaim := { program := "ytdbbmnhaiejnjaa", sum := "d55df09d291858d0c70d07c2e093b9f0b45a10ceb0bc4e408abc36ce4945e0c6", func := "horarium/horariumlaw11.RoomOpens", spec := "roomOpens", unfollowed := true, recurses := true, apart := false }
def RoomOpensSaid : Prop := roomOpensRow.holds Try.pinned (OpenSpec.ofChange roomOpensSpec)

/-- ITS FALSE NEIGHBOUR: 'it returns false'. Refute it at one input. -/
def roomOpensWrong : ChangeSpec := { name := "roomOpens", fn := fun _ => fun
  | [d1, d2, d3] => { results := [.lit (.bool false)], args := [d1, d2, d3] }
  | _ => none }
def RoomOpensWrongFalsely : Prop := roomOpensRow.holds Try.pinned (OpenSpec.ofChange roomOpensWrong)

/-- 'horariumlaw11.RoomCloses': WHATEVER THE INPUT: true; the input reads as it did. -/
def roomClosesSpec : ChangeSpec := { name := "roomCloses", fn := fun _ => fun
  | [d1, d2] => { results := [.lit (.bool true)], args := [d1, d2] }
  | _ => none }
def roomClosesRow : OpenClaim := { program := "ytdbbmnhaiejnjaa", sum := "d55df09d291858d0c70d07c2e093b9f0b45a10ceb0bc4e408abc36ce4945e0c6", func := "horarium/horariumlaw11.RoomCloses", spec := "roomCloses", unfollowed := true, recurses := true, apart := false }
def RoomClosesSaid : Prop := roomClosesRow.holds Try.pinned (OpenSpec.ofChange roomClosesSpec)

/-- ITS FALSE NEIGHBOUR: 'it returns false'. Refute it at one input. -/
def roomClosesWrong : ChangeSpec := { name := "roomCloses", fn := fun _ => fun
  | [d1, d2] => { results := [.lit (.bool false)], args := [d1, d2] }
  | _ => none }
def RoomClosesWrongFalsely : Prop := roomClosesRow.holds Try.pinned (OpenSpec.ofChange roomClosesWrong)

/-- 'horariumlaw11.RoomBack': WHATEVER THE INPUT: true; the input reads as it did. -/
def roomBackSpec : ChangeSpec := { name := "roomBack", fn := fun _ => fun
  | [d1, d2] => { results := [.lit (.bool true)], args := [d1, d2] }
  | _ => none }
def roomBackRow : OpenClaim := { program := "ytdbbmnhaiejnjaa", sum := "d55df09d291858d0c70d07c2e093b9f0b45a10ceb0bc4e408abc36ce4945e0c6", func := "horarium/horariumlaw11.RoomBack", spec := "roomBack", unfollowed := true, recurses := true, apart := false }
def RoomBackSaid : Prop := roomBackRow.holds Try.pinned (OpenSpec.ofChange roomBackSpec)

/-- ITS FALSE NEIGHBOUR: 'it returns false'. Refute it at one input. -/
def roomBackWrong : ChangeSpec := { name := "roomBack", fn := fun _ => fun
  | [d1, d2] => { results := [.lit (.bool false)], args := [d1, d2] }
  | _ => none }
def RoomBackWrongFalsely : Prop := roomBackRow.holds Try.pinned (OpenSpec.ofChange roomBackWrong)

/- THE SECOND FORM. 'bulk': how many values and letters a reading holds, each counted each time it is reached (what is shared counts as often as it is met; a slice's spare places count too). A statement '..UptoSaid' is the law's where the arguments, and the package variables that the reading takes, are together of bulk at most 1048576: NARROWER than '..Said'. Prove '..Said' where nothing that the law and all that it calls make is longer than what came in: it says more and counts as full. Else prove '..UptoSaid'. A law counts once. -/
mutual
def uptoBulk {H : Type} : DataW H → Nat
  | .lit (.string bytes) => bytes.length + 1
  | .lit _ => 1
  | .nil => 1
  | .ptr d => uptoBulk d + 1
  | .slice elems spare => uptoBulkAll elems + uptoBulkAll spare + 1
  | .agg parts => uptoBulkAll parts + 1
  | .iface _ d => uptoBulk d + 1
  | .map entries => uptoBulkEntries entries + 1
  | .held _ => 1
def uptoBulkAll {H : Type} : List (DataW H) → Nat
  | [] => 0
  | d :: r => uptoBulk d + uptoBulkAll r
def uptoBulkEntries {H : Type} : List (Lit × DataW H) → Nat
  | [] => 0
  | x :: r => uptoBulkEntry x + uptoBulkEntries r
def uptoBulkEntry {H : Type} : Lit × DataW H → Nat
  | (.string bytes, d) => bytes.length + uptoBulk d + 1
  | (_, d) => uptoBulk d + 1
 end
def uptoSmall : (H : Type) → List (DataW H) → Bool := fun _ ds => decide (uptoBulkAll ds ≤ 1048576)
def OpenSpec.upto (s : _root_.Go.ChangeSpec) : _root_.Go.OpenSpec := { _root_.Go.OpenSpec.ofChange s with cond := some uptoSmall }

/-- 'horariumlaw11.RoomWalks', WHERE WHAT IT READS IS OF BULK AT MOST 1048576: true; the input reads as it did. -/
def roomWalksUptoRow : OpenClaim := { program := "ytdbbmnhaiejnjaa", sum := "d55df09d291858d0c70d07c2e093b9f0b45a10ceb0bc4e408abc36ce4945e0c6", func := "horarium/horariumlaw11.RoomWalks", spec := "roomWalks", unfollowed := true, recurses := true, apart := false, narrowed := true }
def RoomWalksUptoSaid : Prop := roomWalksUptoRow.holds Try.pinned (OpenSpec.upto roomWalksSpec)

/-- 'horariumlaw11.RoomSames', WHERE WHAT IT READS IS OF BULK AT MOST 1048576: true; the input reads as it did. -/
def roomSamesUptoRow : OpenClaim := { program := "ytdbbmnhaiejnjaa", sum := "d55df09d291858d0c70d07c2e093b9f0b45a10ceb0bc4e408abc36ce4945e0c6", func := "horarium/horariumlaw11.RoomSames", spec := "roomSames", unfollowed := true, recurses := true, apart := false, narrowed := true }
def RoomSamesUptoSaid : Prop := roomSamesUptoRow.holds Try.pinned (OpenSpec.upto roomSamesSpec)

/-- 'horariumlaw11.RoomTells', WHERE WHAT IT READS IS OF BULK AT MOST 1048576: true; the input reads as it did. -/
def roomTellsUptoRow : OpenClaim := { program := "ytdbbmnhaiejnjaa", sum := "d55df09d291858d0c70d07c2e093b9f0b45a10ceb0bc4e408abc36ce4945e0c6", func := "horarium/horariumlaw11.RoomTells", spec := "roomTells", unfollowed := true, recurses := true, apart := false, narrowed := true }
def RoomTellsUptoSaid : Prop := roomTellsUptoRow.holds Try.pinned (OpenSpec.upto roomTellsSpec)

/-- 'horariumlaw11.RoomOpens', WHERE WHAT IT READS IS OF BULK AT MOST 1048576: true; the input reads as it did. -/
def roomOpensUptoRow : OpenClaim := { program := "ytdbbmnhaiejnjaa", sum := "d55df09d291858d0c70d07c2e093b9f0b45a10ceb0bc4e408abc36ce4945e0c6", func := "horarium/horariumlaw11.RoomOpens", spec := "roomOpens", unfollowed := true, recurses := true, apart := false, narrowed := true }
def RoomOpensUptoSaid : Prop := roomOpensUptoRow.holds Try.pinned (OpenSpec.upto roomOpensSpec)

/-- 'horariumlaw11.RoomCloses', WHERE WHAT IT READS IS OF BULK AT MOST 1048576: true; the input reads as it did. -/
def roomClosesUptoRow : OpenClaim := { program := "ytdbbmnhaiejnjaa", sum := "d55df09d291858d0c70d07c2e093b9f0b45a10ceb0bc4e408abc36ce4945e0c6", func := "horarium/horariumlaw11.RoomCloses", spec := "roomCloses", unfollowed := true, recurses := true, apart := false, narrowed := true }
def RoomClosesUptoSaid : Prop := roomClosesUptoRow.holds Try.pinned (OpenSpec.upto roomClosesSpec)

/-- 'horariumlaw11.RoomBack', WHERE WHAT IT READS IS OF BULK AT MOST 1048576: true; the input reads as it did. -/
def roomBackUptoRow : OpenClaim := { program := "ytdbbmnhaiejnjaa", sum := "d55df09d291858d0c70d07c2e093b9f0b45a10ceb0bc4e408abc36ce4945e0c6", func := "horarium/horariumlaw11.RoomBack", spec := "roomBack", unfollowed := true, recurses := true, apart := false, narrowed := true }
def RoomBackUptoSaid : Prop := roomBackUptoRow.holds Try.pinned (OpenSpec.upto roomBackSpec)

end Rows
end Go.Proofs.Ytdbbmnhaiejnjaa
