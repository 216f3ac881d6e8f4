/-
  No cell of these rows narrows 'for every input' (looked for: loops, veiled, ifaces, maps, wideKeys, modest, calm, conditions, laid).
  DERIVED. THE GIVEN ROWS OF THIS SEAT. 13 by the template 'for every input the law returns true; each argument reads behind the call as it read before'; 0 by the template 'total and deterministic' (their statements: YtbanlhlggkdanaaTotals.lean).
  GIVEN WITH THE SEED: the statements are not yours to turn. If you find one false, say at which input.
  Laid BY PROGRAM, IN A SANDBOX (cutbox-rows.mjs): the forced cells as the released guide's own fill.sh prints them over the translation 946608a32d4888e2… (all of the seat's roots in one cut). By AI agents, Wed Nov 11 2026. No macro, syntax, notation, axiom, sorry.
-/
import Derived.Test.YtbanlhlggkdanaaChecked
import GoSem.Claim
import GoSem.ClaimJoined
import GoSem.ClaimMapViews
import Derived.JoinedTies
import Derived.KernelRfl
namespace Go.Proofs.Ytbanlhlggkdanaa
/- THE CELL 'sum', in the pinned program and in every row, IS THE sha256 OF THE DUMP (.gsa) THAT YtbanlhlggkdanaaProg.lean LOADS. Nothing in Lean hashes anything: it is a label: what it is worth is what the hold of that sum in a sandbox is worth. -/
noncomputable def Try.pinned : Pinned := { name := "ytbanlhlggkdanaa", sum := "946608a32d4888e2c13df7f91c8ba63d54dfc9db633f5ad5e38f53e15d4a5ebb", checked := Try.checked }
namespace Rows
def none {H : Type} : Left H := { results := [], args := [] }

/-- 'isohyetlaw10.WalkHolds': WHATEVER THE INPUT: true; the input reads as it did. -/
def walkHoldsSpec : ChangeSpec := { name := "walkHolds", fn := fun _ => fun
  | [d1, d2] => { results := [.lit (.bool true)], args := [d1, d2] }
  | _ => none }
def walkHoldsRow : OpenClaim := { program := "ytbanlhlggkdanaa", sum := "946608a32d4888e2c13df7f91c8ba63d54dfc9db633f5ad5e38f53e15d4a5ebb", func := "isohyet/isohyetlaw10.WalkHolds", spec := "walkHolds", inPlace := ["math/bits.Add64", "math/bits.Sub64"], unfollowed := true, recurses := true, plainKeys := false, apart := false }
def WalkHoldsSaid : Prop := walkHoldsRow.holds Try.pinned (OpenSpec.ofChange walkHoldsSpec)

/-- ITS FALSE NEIGHBOUR: 'it returns false'. Refute it at one input. -/
def walkHoldsWrong : ChangeSpec := { name := "walkHolds", fn := fun _ => fun
  | [d1, d2] => { results := [.lit (.bool false)], args := [d1, d2] }
  | _ => none }
def WalkHoldsWrongFalsely : Prop := walkHoldsRow.holds Try.pinned (OpenSpec.ofChange walkHoldsWrong)

/-- 'isohyetlaw10.WalkFinds': WHATEVER THE INPUT: true; the input reads as it did. -/
def walkFindsSpec : ChangeSpec := { name := "walkFinds", fn := fun _ => fun
  | [d1, d2, d3] => { results := [.lit (.bool true)], args := [d1, d2, d3] }
  | _ => none }
def walkFindsRow : OpenClaim := { program := "ytbanlhlggkdanaa", sum := "946608a32d4888e2c13df7f91c8ba63d54dfc9db633f5ad5e38f53e15d4a5ebb", func := "isohyet/isohyetlaw10.WalkFinds", spec := "walkFinds", inPlace := ["math/bits.Add64", "math/bits.Sub64"], unfollowed := true, recurses := true, plainKeys := false, apart := false }
def WalkFindsSaid : Prop := walkFindsRow.holds Try.pinned (OpenSpec.ofChange walkFindsSpec)

/-- ITS FALSE NEIGHBOUR: 'it returns false'. Refute it at one input. -/
def walkFindsWrong : ChangeSpec := { name := "walkFinds", fn := fun _ => fun
  | [d1, d2, d3] => { results := [.lit (.bool false)], args := [d1, d2, d3] }
  | _ => none }
def WalkFindsWrongFalsely : Prop := walkFindsRow.holds Try.pinned (OpenSpec.ofChange walkFindsWrong)

/-- 'isohyetlaw10.WalkLooks': WHATEVER THE INPUT: true; the input reads as it did. -/
def walkLooksSpec : ChangeSpec := { name := "walkLooks", fn := fun _ => fun
  | [d1, d2, d3] => { results := [.lit (.bool true)], args := [d1, d2, d3] }
  | _ => none }
def walkLooksRow : OpenClaim := { program := "ytbanlhlggkdanaa", sum := "946608a32d4888e2c13df7f91c8ba63d54dfc9db633f5ad5e38f53e15d4a5ebb", func := "isohyet/isohyetlaw10.WalkLooks", spec := "walkLooks", inPlace := ["math/bits.Add64", "math/bits.Sub64"], unfollowed := true, recurses := true, plainKeys := false, apart := false }
def WalkLooksSaid : Prop := walkLooksRow.holds Try.pinned (OpenSpec.ofChange walkLooksSpec)

/-- ITS FALSE NEIGHBOUR: 'it returns false'. Refute it at one input. -/
def walkLooksWrong : ChangeSpec := { name := "walkLooks", fn := fun _ => fun
  | [d1, d2, d3] => { results := [.lit (.bool false)], args := [d1, d2, d3] }
  | _ => none }
def WalkLooksWrongFalsely : Prop := walkLooksRow.holds Try.pinned (OpenSpec.ofChange walkLooksWrong)

/-- 'isohyetlaw09.MeshNews': WHATEVER THE INPUT: true; the input reads as it did. -/
def meshNewsSpec : ChangeSpec := { name := "meshNews", fn := fun _ => fun
  | [d1, d2] => { results := [.lit (.bool true)], args := [d1, d2] }
  | _ => none }
def meshNewsRow : OpenClaim := { program := "ytbanlhlggkdanaa", sum := "946608a32d4888e2c13df7f91c8ba63d54dfc9db633f5ad5e38f53e15d4a5ebb", func := "isohyet/isohyetlaw09.MeshNews", spec := "meshNews", inPlace := ["math/bits.Add64", "math/bits.Sub64"], unfollowed := true, recurses := true, plainKeys := false, apart := false }
def MeshNewsSaid : Prop := meshNewsRow.holds Try.pinned (OpenSpec.ofChange meshNewsSpec)

/-- ITS FALSE NEIGHBOUR: 'it returns false'. Refute it at one input. -/
def meshNewsWrong : ChangeSpec := { name := "meshNews", fn := fun _ => fun
  | [d1, d2] => { results := [.lit (.bool false)], args := [d1, d2] }
  | _ => none }
def MeshNewsWrongFalsely : Prop := meshNewsRow.holds Try.pinned (OpenSpec.ofChange meshNewsWrong)

/-- 'isohyetlaw09.MeshSpoils': WHATEVER THE INPUT: true; the input reads as it did. -/
def meshSpoilsSpec : ChangeSpec := { name := "meshSpoils", fn := fun _ => fun
  | [d1, d2, d3] => { results := [.lit (.bool true)], args := [d1, d2, d3] }
  | _ => none }
def meshSpoilsRow : OpenClaim := { program := "ytbanlhlggkdanaa", sum := "946608a32d4888e2c13df7f91c8ba63d54dfc9db633f5ad5e38f53e15d4a5ebb", func := "isohyet/isohyetlaw09.MeshSpoils", spec := "meshSpoils", inPlace := ["math/bits.Add64", "math/bits.Sub64"], unfollowed := true, recurses := true, plainKeys := false, apart := false }
def MeshSpoilsSaid : Prop := meshSpoilsRow.holds Try.pinned (OpenSpec.ofChange meshSpoilsSpec)

/-- ITS FALSE NEIGHBOUR: 'it returns false'. Refute it at one input. -/
def meshSpoilsWrong : ChangeSpec := { name := "meshSpoils", fn := fun _ => fun
  | [d1, d2, d3] => { results := [.lit (.bool false)], args := [d1, d2, d3] }
  | _ => none }
def MeshSpoilsWrongFalsely : Prop := meshSpoilsRow.holds Try.pinned (OpenSpec.ofChange meshSpoilsWrong)

/-- 'isohyetlaw09.MeshSlots': WHATEVER THE INPUT: true; the input reads as it did. -/
def meshSlotsSpec : ChangeSpec := { name := "meshSlots", fn := fun _ => fun
  | [d1, d2] => { results := [.lit (.bool true)], args := [d1, d2] }
  | _ => none }
def meshSlotsRow : OpenClaim := { program := "ytbanlhlggkdanaa", sum := "946608a32d4888e2c13df7f91c8ba63d54dfc9db633f5ad5e38f53e15d4a5ebb", func := "isohyet/isohyetlaw09.MeshSlots", spec := "meshSlots", inPlace := ["math/bits.Add64", "math/bits.Sub64"], unfollowed := true, recurses := true, plainKeys := false, apart := false }
def MeshSlotsSaid : Prop := meshSlotsRow.holds Try.pinned (OpenSpec.ofChange meshSlotsSpec)

/-- ITS FALSE NEIGHBOUR: 'it returns false'. Refute it at one input. -/
def meshSlotsWrong : ChangeSpec := { name := "meshSlots", fn := fun _ => fun
  | [d1, d2] => { results := [.lit (.bool false)], args := [d1, d2] }
  | _ => none }
def MeshSlotsWrongFalsely : Prop := meshSlotsRow.holds Try.pinned (OpenSpec.ofChange meshSlotsWrong)

/-- 'isohyetlaw09.MeshArounds': WHATEVER THE INPUT: true; the input reads as it did. -/
def meshAroundsSpec : ChangeSpec := { name := "meshArounds", fn := fun _ => fun
  | [d1, d2] => { results := [.lit (.bool true)], args := [d1, d2] }
  | _ => none }
def meshAroundsRow : OpenClaim := { program := "ytbanlhlggkdanaa", sum := "946608a32d4888e2c13df7f91c8ba63d54dfc9db633f5ad5e38f53e15d4a5ebb", func := "isohyet/isohyetlaw09.MeshArounds", spec := "meshArounds", inPlace := ["math/bits.Add64", "math/bits.Sub64"], unfollowed := true, recurses := true, plainKeys := false, apart := false }
def MeshAroundsSaid : Prop := meshAroundsRow.holds Try.pinned (OpenSpec.ofChange meshAroundsSpec)

/-- ITS FALSE NEIGHBOUR: 'it returns false'. Refute it at one input. -/
def meshAroundsWrong : ChangeSpec := { name := "meshArounds", fn := fun _ => fun
  | [d1, d2] => { results := [.lit (.bool false)], args := [d1, d2] }
  | _ => none }
def MeshAroundsWrongFalsely : Prop := meshAroundsRow.holds Try.pinned (OpenSpec.ofChange meshAroundsWrong)

/-- 'isohyetlaw09.MeshFinds': WHATEVER THE INPUT: true; the input reads as it did. -/
def meshFindsSpec : ChangeSpec := { name := "meshFinds", fn := fun _ => fun
  | [d1, d2] => { results := [.lit (.bool true)], args := [d1, d2] }
  | _ => none }
def meshFindsRow : OpenClaim := { program := "ytbanlhlggkdanaa", sum := "946608a32d4888e2c13df7f91c8ba63d54dfc9db633f5ad5e38f53e15d4a5ebb", func := "isohyet/isohyetlaw09.MeshFinds", spec := "meshFinds", inPlace := ["math/bits.Add64", "math/bits.Sub64"], unfollowed := true, recurses := true, plainKeys := false, apart := false }
def MeshFindsSaid : Prop := meshFindsRow.holds Try.pinned (OpenSpec.ofChange meshFindsSpec)

/-- ITS FALSE NEIGHBOUR: 'it returns false'. Refute it at one input. -/
def meshFindsWrong : ChangeSpec := { name := "meshFinds", fn := fun _ => fun
  | [d1, d2] => { results := [.lit (.bool false)], args := [d1, d2] }
  | _ => none }
def MeshFindsWrongFalsely : Prop := meshFindsRow.holds Try.pinned (OpenSpec.ofChange meshFindsWrong)

/-- 'isohyetlaw11.CavityTakes': WHATEVER THE INPUT: true; the input reads as it did. -/
def cavityTakesSpec : ChangeSpec := { name := "cavityTakes", fn := fun _ => fun
  | [d1, d2, d3] => { results := [.lit (.bool true)], args := [d1, d2, d3] }
  | _ => none }
def cavityTakesRow : OpenClaim := { program := "ytbanlhlggkdanaa", sum := "946608a32d4888e2c13df7f91c8ba63d54dfc9db633f5ad5e38f53e15d4a5ebb", func := "isohyet/isohyetlaw11.CavityTakes", spec := "cavityTakes", inPlace := ["math/bits.Add64", "math/bits.Sub64"], unfollowed := true, recurses := true, plainKeys := false, apart := false }
def CavityTakesSaid : Prop := cavityTakesRow.holds Try.pinned (OpenSpec.ofChange cavityTakesSpec)

/-- ITS FALSE NEIGHBOUR: 'it returns false'. Refute it at one input. -/
def cavityTakesWrong : ChangeSpec := { name := "cavityTakes", fn := fun _ => fun
  | [d1, d2, d3] => { results := [.lit (.bool false)], args := [d1, d2, d3] }
  | _ => none }
def CavityTakesWrongFalsely : Prop := cavityTakesRow.holds Try.pinned (OpenSpec.ofChange cavityTakesWrong)

/-- 'isohyetlaw11.CavityRims': WHATEVER THE INPUT: true; the input reads as it did. -/
def cavityRimsSpec : ChangeSpec := { name := "cavityRims", fn := fun _ => fun
  | [d1, d2, d3] => { results := [.lit (.bool true)], args := [d1, d2, d3] }
  | _ => none }
def cavityRimsRow : OpenClaim := { program := "ytbanlhlggkdanaa", sum := "946608a32d4888e2c13df7f91c8ba63d54dfc9db633f5ad5e38f53e15d4a5ebb", func := "isohyet/isohyetlaw11.CavityRims", spec := "cavityRims", inPlace := ["math/bits.Add64", "math/bits.Sub64"], unfollowed := true, recurses := true, plainKeys := false, apart := false }
def CavityRimsSaid : Prop := cavityRimsRow.holds Try.pinned (OpenSpec.ofChange cavityRimsSpec)

/-- ITS FALSE NEIGHBOUR: 'it returns false'. Refute it at one input. -/
def cavityRimsWrong : ChangeSpec := { name := "cavityRims", fn := fun _ => fun
  | [d1, d2, d3] => { results := [.lit (.bool false)], args := [d1, d2, d3] }
  | _ => none }
def CavityRimsWrongFalsely : Prop := cavityRimsRow.holds Try.pinned (OpenSpec.ofChange cavityRimsWrong)

/-- 'isohyetlaw09.MeshGrids': WHATEVER THE INPUT: true; the input reads as it did. -/
def meshGridsSpec : ChangeSpec := { name := "meshGrids", fn := fun _ => fun
  | [d1, d2, d3] => { results := [.lit (.bool true)], args := [d1, d2, d3] }
  | _ => none }
def meshGridsRow : OpenClaim := { program := "ytbanlhlggkdanaa", sum := "946608a32d4888e2c13df7f91c8ba63d54dfc9db633f5ad5e38f53e15d4a5ebb", func := "isohyet/isohyetlaw09.MeshGrids", spec := "meshGrids", inPlace := ["math/bits.Add64", "math/bits.Sub64"], unfollowed := true, recurses := true, plainKeys := false, apart := false }
def MeshGridsSaid : Prop := meshGridsRow.holds Try.pinned (OpenSpec.ofChange meshGridsSpec)

/-- ITS FALSE NEIGHBOUR: 'it returns false'. Refute it at one input. -/
def meshGridsWrong : ChangeSpec := { name := "meshGrids", fn := fun _ => fun
  | [d1, d2, d3] => { results := [.lit (.bool false)], args := [d1, d2, d3] }
  | _ => none }
def MeshGridsWrongFalsely : Prop := meshGridsRow.holds Try.pinned (OpenSpec.ofChange meshGridsWrong)

/-- 'isohyetlaw11.CavityStars': WHATEVER THE INPUT: true; the input reads as it did. -/
def cavityStarsSpec : ChangeSpec := { name := "cavityStars", fn := fun _ => fun
  | [d1, d2, d3] => { results := [.lit (.bool true)], args := [d1, d2, d3] }
  | _ => none }
def cavityStarsRow : OpenClaim := { program := "ytbanlhlggkdanaa", sum := "946608a32d4888e2c13df7f91c8ba63d54dfc9db633f5ad5e38f53e15d4a5ebb", func := "isohyet/isohyetlaw11.CavityStars", spec := "cavityStars", inPlace := ["math/bits.Add64", "math/bits.Sub64"], unfollowed := true, recurses := true, plainKeys := false, apart := false }
def CavityStarsSaid : Prop := cavityStarsRow.holds Try.pinned (OpenSpec.ofChange cavityStarsSpec)

/-- ITS FALSE NEIGHBOUR: 'it returns false'. Refute it at one input. -/
def cavityStarsWrong : ChangeSpec := { name := "cavityStars", fn := fun _ => fun
  | [d1, d2, d3] => { results := [.lit (.bool false)], args := [d1, d2, d3] }
  | _ => none }
def CavityStarsWrongFalsely : Prop := cavityStarsRow.holds Try.pinned (OpenSpec.ofChange cavityStarsWrong)

/-- 'isohyetlaw11.CavityAreas': WHATEVER THE INPUT: true; the input reads as it did. -/
def cavityAreasSpec : ChangeSpec := { name := "cavityAreas", fn := fun _ => fun
  | [d1, d2, d3] => { results := [.lit (.bool true)], args := [d1, d2, d3] }
  | _ => none }
def cavityAreasRow : OpenClaim := { program := "ytbanlhlggkdanaa", sum := "946608a32d4888e2c13df7f91c8ba63d54dfc9db633f5ad5e38f53e15d4a5ebb", func := "isohyet/isohyetlaw11.CavityAreas", spec := "cavityAreas", inPlace := ["math/bits.Add64", "math/bits.Sub64"], unfollowed := true, recurses := true, plainKeys := false, apart := false }
def CavityAreasSaid : Prop := cavityAreasRow.holds Try.pinned (OpenSpec.ofChange cavityAreasSpec)

/-- ITS FALSE NEIGHBOUR: 'it returns false'. Refute it at one input. -/
def cavityAreasWrong : ChangeSpec := { name := "cavityAreas", fn := fun _ => fun
  | [d1, d2, d3] => { results := [.lit (.bool false)], args := [d1, d2, d3] }
  | _ => none }
def CavityAreasWrongFalsely : Prop := cavityAreasRow.holds Try.pinned (OpenSpec.ofChange cavityAreasWrong)

/- THE SECOND FORM. 'bulk': how many values and letters a reading holds, each counted each time it is reached (what is shared counts as often as it is met; a slice's spare places count too). A statement '..UptoSaid' is the law's where the arguments, and the package variables that the reading takes, are together of bulk at most 1048576: NARROWER than '..Said'. Prove '..Said' where nothing that the law and all that it calls make is longer than what came in: it says more and counts as full. Else prove '..UptoSaid'. A law counts once. -/
mutual
def uptoBulk {H : Type} : DataW H → Nat
  | .lit (.string bytes) => bytes.length + 1
  | .lit _ => 1
  | .nil => 1
  | .ptr d => uptoBulk d + 1
  | .slice elems spare => uptoBulkAll elems + uptoBulkAll spare + 1
  | .agg parts => uptoBulkAll parts + 1
  | .iface _ d => uptoBulk d + 1
  | .map entries => uptoBulkEntries entries + 1
  | .held _ => 1
def uptoBulkAll {H : Type} : List (DataW H) → Nat
  | [] => 0
  | d :: r => uptoBulk d + uptoBulkAll r
def uptoBulkEntries {H : Type} : List (Lit × DataW H) → Nat
  | [] => 0
  | x :: r => uptoBulkEntry x + uptoBulkEntries r
def uptoBulkEntry {H : Type} : Lit × DataW H → Nat
  | (.string bytes, d) => bytes.length + uptoBulk d + 1
  | (_, d) => uptoBulk d + 1
 end
def uptoSmall : (H : Type) → List (DataW H) → Bool := fun _ ds => decide (uptoBulkAll ds ≤ 1048576)
def OpenSpec.upto (s : _root_.Go.ChangeSpec) : _root_.Go.OpenSpec := { _root_.Go.OpenSpec.ofChange s with cond := some uptoSmall }

/-- 'isohyetlaw10.WalkHolds', WHERE WHAT IT READS IS OF BULK AT MOST 1048576: true; the input reads as it did. -/
def walkHoldsUptoRow : OpenClaim := { program := "ytbanlhlggkdanaa", sum := "946608a32d4888e2c13df7f91c8ba63d54dfc9db633f5ad5e38f53e15d4a5ebb", func := "isohyet/isohyetlaw10.WalkHolds", spec := "walkHolds", inPlace := ["math/bits.Add64", "math/bits.Sub64"], unfollowed := true, recurses := true, plainKeys := false, apart := false, narrowed := true }
def WalkHoldsUptoSaid : Prop := walkHoldsUptoRow.holds Try.pinned (OpenSpec.upto walkHoldsSpec)

/-- 'isohyetlaw10.WalkFinds', WHERE WHAT IT READS IS OF BULK AT MOST 1048576: true; the input reads as it did. -/
def walkFindsUptoRow : OpenClaim := { program := "ytbanlhlggkdanaa", sum := "946608a32d4888e2c13df7f91c8ba63d54dfc9db633f5ad5e38f53e15d4a5ebb", func := "isohyet/isohyetlaw10.WalkFinds", spec := "walkFinds", inPlace := ["math/bits.Add64", "math/bits.Sub64"], unfollowed := true, recurses := true, plainKeys := false, apart := false, narrowed := true }
def WalkFindsUptoSaid : Prop := walkFindsUptoRow.holds Try.pinned (OpenSpec.upto walkFindsSpec)

/-- 'isohyetlaw10.WalkLooks', WHERE WHAT IT READS IS OF BULK AT MOST 1048576: true; the input reads as it did. -/
def walkLooksUptoRow : OpenClaim := { program := "ytbanlhlggkdanaa", sum := "946608a32d4888e2c13df7f91c8ba63d54dfc9db633f5ad5e38f53e15d4a5ebb", func := "isohyet/isohyetlaw10.WalkLooks", spec := "walkLooks", inPlace := ["math/bits.Add64", "math/bits.Sub64"], unfollowed := true, recurses := true, plainKeys := false, apart := false, narrowed := true }
def WalkLooksUptoSaid : Prop := walkLooksUptoRow.holds Try.pinned (OpenSpec.upto walkLooksSpec)

/-- 'isohyetlaw09.MeshNews', WHERE WHAT IT READS IS OF BULK AT MOST 1048576: true; the input reads as it did. -/
def meshNewsUptoRow : OpenClaim := { program := "ytbanlhlggkdanaa", sum := "946608a32d4888e2c13df7f91c8ba63d54dfc9db633f5ad5e38f53e15d4a5ebb", func := "isohyet/isohyetlaw09.MeshNews", spec := "meshNews", inPlace := ["math/bits.Add64", "math/bits.Sub64"], unfollowed := true, recurses := true, plainKeys := false, apart := false, narrowed := true }
def MeshNewsUptoSaid : Prop := meshNewsUptoRow.holds Try.pinned (OpenSpec.upto meshNewsSpec)

/-- 'isohyetlaw09.MeshSpoils', WHERE WHAT IT READS IS OF BULK AT MOST 1048576: true; the input reads as it did. -/
def meshSpoilsUptoRow : OpenClaim := { program := "ytbanlhlggkdanaa", sum := "946608a32d4888e2c13df7f91c8ba63d54dfc9db633f5ad5e38f53e15d4a5ebb", func := "isohyet/isohyetlaw09.MeshSpoils", spec := "meshSpoils", inPlace := ["math/bits.Add64", "math/bits.Sub64"], unfollowed := true, recurses := true, plainKeys := false, apart := false, narrowed := true }
def MeshSpoilsUptoSaid : Prop := meshSpoilsUptoRow.holds Try.pinned (OpenSpec.upto meshSpoilsSpec)

/-- 'isohyetlaw09.MeshSlots', WHERE WHAT IT READS IS OF BULK AT MOST 1048576: true; the input reads as it did. -/
def meshSlotsUptoRow : OpenClaim := { program := "ytbanlhlggkdanaa", sum := "946608a32d4888e2c13df7f91c8ba63d54dfc9db633f5ad5e38f53e15d4a5ebb", func := "isohyet/isohyetlaw09.MeshSlots", spec := "meshSlots", inPlace := ["math/bits.Add64", "math/bits.Sub64"], unfollowed := true, recurses := true, plainKeys := false, apart := false, narrowed := true }
def MeshSlotsUptoSaid : Prop := meshSlotsUptoRow.holds Try.pinned (OpenSpec.upto meshSlotsSpec)

/-- 'isohyetlaw09.MeshArounds', WHERE WHAT IT READS IS OF BULK AT MOST 1048576: true; the input reads as it did. -/
def meshAroundsUptoRow : OpenClaim := { program := "ytbanlhlggkdanaa", sum := "946608a32d4888e2c13df7f91c8ba63d54dfc9db633f5ad5e38f53e15d4a5ebb", func := "isohyet/isohyetlaw09.MeshArounds", spec := "meshArounds", inPlace := ["math/bits.Add64", "math/bits.Sub64"], unfollowed := true, recurses := true, plainKeys := false, apart := false, narrowed := true }
def MeshAroundsUptoSaid : Prop := meshAroundsUptoRow.holds Try.pinned (OpenSpec.upto meshAroundsSpec)

/-- 'isohyetlaw09.MeshFinds', WHERE WHAT IT READS IS OF BULK AT MOST 1048576: true; the input reads as it did. -/
def meshFindsUptoRow : OpenClaim := { program := "ytbanlhlggkdanaa", sum := "946608a32d4888e2c13df7f91c8ba63d54dfc9db633f5ad5e38f53e15d4a5ebb", func := "isohyet/isohyetlaw09.MeshFinds", spec := "meshFinds", inPlace := ["math/bits.Add64", "math/bits.Sub64"], unfollowed := true, recurses := true, plainKeys := false, apart := false, narrowed := true }
def MeshFindsUptoSaid : Prop := meshFindsUptoRow.holds Try.pinned (OpenSpec.upto meshFindsSpec)

/-- 'isohyetlaw11.CavityTakes', WHERE WHAT IT READS IS OF BULK AT MOST 1048576: true; the input reads as it did. -/
def cavityTakesUptoRow : OpenClaim := { program := "ytbanlhlggkdanaa", sum := "946608a32d4888e2c13df7f91c8ba63d54dfc9db633f5ad5e38f53e15d4a5ebb", func := "isohyet/isohyetlaw11.CavityTakes", spec := "cavityTakes", inPlace := ["math/bits.Add64", "math/bits.Sub64"], unfollowed := true, recurses := true, plainKeys := false, apart := false, narrowed := true }
def CavityTakesUptoSaid : Prop := cavityTakesUptoRow.holds Try.pinned (OpenSpec.upto cavityTakesSpec)

/-- 'isohyetlaw11.CavityRims', WHERE WHAT IT READS IS OF BULK AT MOST 1048576: true; the input reads as it did. -/
def cavityRimsUptoRow : OpenClaim := { program := "ytbanlhlggkdanaa", sum := "946608a32d4888e2c13df7f91c8ba63d54dfc9db633f5ad5e38f53e15d4a5ebb", func := "isohyet/isohyetlaw11.CavityRims", spec := "cavityRims", inPlace := ["math/bits.Add64", "math/bits.Sub64"], unfollowed := true, recurses := true, plainKeys := false, apart := false, narrowed := true }
def CavityRimsUptoSaid : Prop := cavityRimsUptoRow.holds Try.pinned (OpenSpec.upto cavityRimsSpec)

/-- 'isohyetlaw09.MeshGrids', WHERE WHAT IT READS IS OF BULK AT MOST 1048576: true; the input reads as it did. -/
def meshGridsUptoRow : OpenClaim := { program := "ytbanlhlggkdanaa", sum := "946608a32d4888e2c13df7f91c8ba63d54dfc9db633f5ad5e38f53e15d4a5ebb", func := "isohyet/isohyetlaw09.MeshGrids", spec := "meshGrids", inPlace := ["math/bits.Add64", "math/bits.Sub64"], unfollowed := true, recurses := true, plainKeys := false, apart := false, narrowed := true }
def MeshGridsUptoSaid : Prop := meshGridsUptoRow.holds Try.pinned (OpenSpec.upto meshGridsSpec)

/-- 'isohyetlaw11.CavityStars', WHERE WHAT IT READS IS OF BULK AT MOST 1048576: true; the input reads as it did. -/
def cavityStarsUptoRow : OpenClaim := { program := "ytbanlhlggkdanaa", sum := "946608a32d4888e2c13df7f91c8ba63d54dfc9db633f5ad5e38f53e15d4a5ebb", func := "isohyet/isohyetlaw11.CavityStars", spec := "cavityStars", inPlace := ["math/bits.Add64", "math/bits.Sub64"], unfollowed := true, recurses := true, plainKeys := false, apart := false, narrowed := true }
def CavityStarsUptoSaid : Prop := cavityStarsUptoRow.holds Try.pinned (OpenSpec.upto cavityStarsSpec)

/-- 'isohyetlaw11.CavityAreas', WHERE WHAT IT READS IS OF BULK AT MOST 1048576: true; the input reads as it did. -/
def cavityAreasUptoRow : OpenClaim := { program := "ytbanlhlggkdanaa", sum := "946608a32d4888e2c13df7f91c8ba63d54dfc9db633f5ad5e38f53e15d4a5ebb", func := "isohyet/isohyetlaw11.CavityAreas", spec := "cavityAreas", inPlace := ["math/bits.Add64", "math/bits.Sub64"], unfollowed := true, recurses := true, plainKeys := false, apart := false, narrowed := true }
def CavityAreasUptoSaid : Prop := cavityAreasUptoRow.holds Try.pinned (OpenSpec.upto cavityAreasSpec)

end Rows
end Go.Proofs.Ytbanlhlggkdanaa
