/-
  No cell of these rows narrows 'for every input' (looked for: loops, veiled, ifaces, maps, wideKeys, modest, calm, conditions, laid).
  DERIVED. THE GIVEN ROWS OF THIS SEAT. 11 by the template 'for every input the law returns true; each argument reads behind the call as it read before'; 0 by the template 'total and deterministic' (their statements: YtggbdfnoehienaaTotals.lean).
  GIVEN WITH THE SEED: the statements are not yours to turn. If you find one false, say at which input.
  Laid BY PROGRAM, IN A SANDBOX (cutbox-rows.mjs): the forced cells as the released guide's own fill.sh prints them over the translation cb6a43052ae97ef9… (all of the seat's roots in one cut). By AI agents, Wed Nov 11 2026. No macro, syntax, notation, axiom, sorry.
-/
import Derived.Test.YtggbdfnoehienaaChecked
import GoSem.Claim
import GoSem.ClaimJoined
import GoSem.ClaimMapViews
import Derived.JoinedTies
import Derived.KernelRfl
namespace Go.Proofs.Ytggbdfnoehienaa
/- THE CELL 'sum', in the pinned program and in every row, IS THE sha256 OF THE DUMP (.gsa) THAT YtggbdfnoehienaaProg.lean LOADS. Nothing in Lean hashes anything: it is a label: what it is worth is what the hold of that sum in a sandbox is worth. -/
noncomputable def Try.pinned : Pinned := { name := "ytggbdfnoehienaa", sum := "cb6a43052ae97ef9a51e9f2d99220ca18d0153cfc0c54f0bd5654ec5840c1b83", checked := Try.checked }
namespace Rows
def none {H : Type} : Left H := { results := [], args := [] }

/-- 'isohyetlaw05.WideCmps': WHATEVER THE INPUT: true; the input reads as it did. -/
def wideCmpsSpec : ChangeSpec := { name := "wideCmps", fn := fun _ => fun
  | [d1, d2] => { results := [.lit (.bool true)], args := [d1, d2] }
  | _ => none }
def wideCmpsRow : OpenClaim := { program := "ytggbdfnoehienaa", sum := "cb6a43052ae97ef9a51e9f2d99220ca18d0153cfc0c54f0bd5654ec5840c1b83", func := "isohyet/isohyetlaw05.WideCmps", spec := "wideCmps", inPlace := ["math/bits.Add64", "math/bits.Sub64"], apart := false }
def WideCmpsSaid : Prop := wideCmpsRow.holds Try.pinned (OpenSpec.ofChange wideCmpsSpec)

/-- ITS FALSE NEIGHBOUR: 'it returns false'. Refute it at one input. -/
def wideCmpsWrong : ChangeSpec := { name := "wideCmps", fn := fun _ => fun
  | [d1, d2] => { results := [.lit (.bool false)], args := [d1, d2] }
  | _ => none }
def WideCmpsWrongFalsely : Prop := wideCmpsRow.holds Try.pinned (OpenSpec.ofChange wideCmpsWrong)

/-- 'isohyetlaw05.WideLaws': WHATEVER THE INPUT: true; the input reads as it did. -/
def wideLawsSpec : ChangeSpec := { name := "wideLaws", fn := fun _ => fun
  | [d1, d2] => { results := [.lit (.bool true)], args := [d1, d2] }
  | _ => none }
def wideLawsRow : OpenClaim := { program := "ytggbdfnoehienaa", sum := "cb6a43052ae97ef9a51e9f2d99220ca18d0153cfc0c54f0bd5654ec5840c1b83", func := "isohyet/isohyetlaw05.WideLaws", spec := "wideLaws", inPlace := ["math/bits.Add64", "math/bits.Sub64"], apart := false }
def WideLawsSaid : Prop := wideLawsRow.holds Try.pinned (OpenSpec.ofChange wideLawsSpec)

/-- ITS FALSE NEIGHBOUR: 'it returns false'. Refute it at one input. -/
def wideLawsWrong : ChangeSpec := { name := "wideLaws", fn := fun _ => fun
  | [d1, d2] => { results := [.lit (.bool false)], args := [d1, d2] }
  | _ => none }
def WideLawsWrongFalsely : Prop := wideLawsRow.holds Try.pinned (OpenSpec.ofChange wideLawsWrong)

/-- 'isohyetlaw05.WideAdds': WHATEVER THE INPUT: true; the input reads as it did. -/
def wideAddsSpec : ChangeSpec := { name := "wideAdds", fn := fun _ => fun
  | [d1, d2] => { results := [.lit (.bool true)], args := [d1, d2] }
  | _ => none }
def wideAddsRow : OpenClaim := { program := "ytggbdfnoehienaa", sum := "cb6a43052ae97ef9a51e9f2d99220ca18d0153cfc0c54f0bd5654ec5840c1b83", func := "isohyet/isohyetlaw05.WideAdds", spec := "wideAdds", inPlace := ["math/bits.Add64", "math/bits.Sub64"], apart := false }
def WideAddsSaid : Prop := wideAddsRow.holds Try.pinned (OpenSpec.ofChange wideAddsSpec)

/-- ITS FALSE NEIGHBOUR: 'it returns false'. Refute it at one input. -/
def wideAddsWrong : ChangeSpec := { name := "wideAdds", fn := fun _ => fun
  | [d1, d2] => { results := [.lit (.bool false)], args := [d1, d2] }
  | _ => none }
def WideAddsWrongFalsely : Prop := wideAddsRow.holds Try.pinned (OpenSpec.ofChange wideAddsWrong)

/-- 'isohyetlaw05.WideDets': WHATEVER THE INPUT: true; the input reads as it did. -/
def wideDetsSpec : ChangeSpec := { name := "wideDets", fn := fun _ => fun
  | [d] => { results := [.lit (.bool true)], args := [d] }
  | _ => none }
def wideDetsRow : OpenClaim := { program := "ytggbdfnoehienaa", sum := "cb6a43052ae97ef9a51e9f2d99220ca18d0153cfc0c54f0bd5654ec5840c1b83", func := "isohyet/isohyetlaw05.WideDets", spec := "wideDets", inPlace := ["math/bits.Add64", "math/bits.Sub64"], apart := false }
def WideDetsSaid : Prop := wideDetsRow.holds Try.pinned (OpenSpec.ofChange wideDetsSpec)

/-- ITS FALSE NEIGHBOUR: 'it returns false'. Refute it at one input. -/
def wideDetsWrong : ChangeSpec := { name := "wideDets", fn := fun _ => fun
  | [d] => { results := [.lit (.bool false)], args := [d] }
  | _ => none }
def WideDetsWrongFalsely : Prop := wideDetsRow.holds Try.pinned (OpenSpec.ofChange wideDetsWrong)

/-- 'isohyetlaw05.WideMuls': WHATEVER THE INPUT: true; the input reads as it did. -/
def wideMulsSpec : ChangeSpec := { name := "wideMuls", fn := fun _ => fun
  | [d1, d2, d3] => { results := [.lit (.bool true)], args := [d1, d2, d3] }
  | _ => none }
def wideMulsRow : OpenClaim := { program := "ytggbdfnoehienaa", sum := "cb6a43052ae97ef9a51e9f2d99220ca18d0153cfc0c54f0bd5654ec5840c1b83", func := "isohyet/isohyetlaw05.WideMuls", spec := "wideMuls", inPlace := ["math/bits.Add64", "math/bits.Sub64"], apart := false }
def WideMulsSaid : Prop := wideMulsRow.holds Try.pinned (OpenSpec.ofChange wideMulsSpec)

/-- ITS FALSE NEIGHBOUR: 'it returns false'. Refute it at one input. -/
def wideMulsWrong : ChangeSpec := { name := "wideMuls", fn := fun _ => fun
  | [d1, d2, d3] => { results := [.lit (.bool false)], args := [d1, d2, d3] }
  | _ => none }
def WideMulsWrongFalsely : Prop := wideMulsRow.holds Try.pinned (OpenSpec.ofChange wideMulsWrong)

/-- 'isohyetlaw06.PredSquares': WHATEVER THE INPUT: true; the input reads as it did. -/
def predSquaresSpec : ChangeSpec := { name := "predSquares", fn := fun _ => fun
  | [d1, d2] => { results := [.lit (.bool true)], args := [d1, d2] }
  | _ => none }
def predSquaresRow : OpenClaim := { program := "ytggbdfnoehienaa", sum := "cb6a43052ae97ef9a51e9f2d99220ca18d0153cfc0c54f0bd5654ec5840c1b83", func := "isohyet/isohyetlaw06.PredSquares", spec := "predSquares", inPlace := ["math/bits.Add64", "math/bits.Sub64"], unfollowed := true, recurses := true, apart := false }
def PredSquaresSaid : Prop := predSquaresRow.holds Try.pinned (OpenSpec.ofChange predSquaresSpec)

/-- ITS FALSE NEIGHBOUR: 'it returns false'. Refute it at one input. -/
def predSquaresWrong : ChangeSpec := { name := "predSquares", fn := fun _ => fun
  | [d1, d2] => { results := [.lit (.bool false)], args := [d1, d2] }
  | _ => none }
def PredSquaresWrongFalsely : Prop := predSquaresRow.holds Try.pinned (OpenSpec.ofChange predSquaresWrong)

/-- 'isohyetlaw06.PredCircles': WHATEVER THE INPUT: true; the input reads as it did. -/
def predCirclesSpec : ChangeSpec := { name := "predCircles", fn := fun _ => fun
  | [d] => { results := [.lit (.bool true)], args := [d] }
  | _ => none }
def predCirclesRow : OpenClaim := { program := "ytggbdfnoehienaa", sum := "cb6a43052ae97ef9a51e9f2d99220ca18d0153cfc0c54f0bd5654ec5840c1b83", func := "isohyet/isohyetlaw06.PredCircles", spec := "predCircles", inPlace := ["math/bits.Add64", "math/bits.Sub64"], unfollowed := true, recurses := true, apart := false }
def PredCirclesSaid : Prop := predCirclesRow.holds Try.pinned (OpenSpec.ofChange predCirclesSpec)

/-- ITS FALSE NEIGHBOUR: 'it returns false'. Refute it at one input. -/
def predCirclesWrong : ChangeSpec := { name := "predCircles", fn := fun _ => fun
  | [d] => { results := [.lit (.bool false)], args := [d] }
  | _ => none }
def PredCirclesWrongFalsely : Prop := predCirclesRow.holds Try.pinned (OpenSpec.ofChange predCirclesWrong)

/-- 'isohyetlaw06.PredTriangles': WHATEVER THE INPUT: true; the input reads as it did. -/
def predTrianglesSpec : ChangeSpec := { name := "predTriangles", fn := fun _ => fun
  | [d1, d2] => { results := [.lit (.bool true)], args := [d1, d2] }
  | _ => none }
def predTrianglesRow : OpenClaim := { program := "ytggbdfnoehienaa", sum := "cb6a43052ae97ef9a51e9f2d99220ca18d0153cfc0c54f0bd5654ec5840c1b83", func := "isohyet/isohyetlaw06.PredTriangles", spec := "predTriangles", inPlace := ["math/bits.Add64", "math/bits.Sub64"], unfollowed := true, recurses := true, apart := false }
def PredTrianglesSaid : Prop := predTrianglesRow.holds Try.pinned (OpenSpec.ofChange predTrianglesSpec)

/-- ITS FALSE NEIGHBOUR: 'it returns false'. Refute it at one input. -/
def predTrianglesWrong : ChangeSpec := { name := "predTriangles", fn := fun _ => fun
  | [d1, d2] => { results := [.lit (.bool false)], args := [d1, d2] }
  | _ => none }
def PredTrianglesWrongFalsely : Prop := predTrianglesRow.holds Try.pinned (OpenSpec.ofChange predTrianglesWrong)

/-- 'isohyetlaw06.PredCrosses': WHATEVER THE INPUT: true; the input reads as it did. -/
def predCrossesSpec : ChangeSpec := { name := "predCrosses", fn := fun _ => fun
  | [d] => { results := [.lit (.bool true)], args := [d] }
  | _ => none }
def predCrossesRow : OpenClaim := { program := "ytggbdfnoehienaa", sum := "cb6a43052ae97ef9a51e9f2d99220ca18d0153cfc0c54f0bd5654ec5840c1b83", func := "isohyet/isohyetlaw06.PredCrosses", spec := "predCrosses", inPlace := ["math/bits.Add64", "math/bits.Sub64"], unfollowed := true, recurses := true, apart := false }
def PredCrossesSaid : Prop := predCrossesRow.holds Try.pinned (OpenSpec.ofChange predCrossesSpec)

/-- ITS FALSE NEIGHBOUR: 'it returns false'. Refute it at one input. -/
def predCrossesWrong : ChangeSpec := { name := "predCrosses", fn := fun _ => fun
  | [d] => { results := [.lit (.bool false)], args := [d] }
  | _ => none }
def PredCrossesWrongFalsely : Prop := predCrossesRow.holds Try.pinned (OpenSpec.ofChange predCrossesWrong)

/-- 'isohyetlaw06.PredOrients': WHATEVER THE INPUT: true; the input reads as it did. -/
def predOrientsSpec : ChangeSpec := { name := "predOrients", fn := fun _ => fun
  | [d1, d2, d3] => { results := [.lit (.bool true)], args := [d1, d2, d3] }
  | _ => none }
def predOrientsRow : OpenClaim := { program := "ytggbdfnoehienaa", sum := "cb6a43052ae97ef9a51e9f2d99220ca18d0153cfc0c54f0bd5654ec5840c1b83", func := "isohyet/isohyetlaw06.PredOrients", spec := "predOrients", inPlace := ["math/bits.Add64", "math/bits.Sub64"], unfollowed := true, recurses := true, apart := false }
def PredOrientsSaid : Prop := predOrientsRow.holds Try.pinned (OpenSpec.ofChange predOrientsSpec)

/-- ITS FALSE NEIGHBOUR: 'it returns false'. Refute it at one input. -/
def predOrientsWrong : ChangeSpec := { name := "predOrients", fn := fun _ => fun
  | [d1, d2, d3] => { results := [.lit (.bool false)], args := [d1, d2, d3] }
  | _ => none }
def PredOrientsWrongFalsely : Prop := predOrientsRow.holds Try.pinned (OpenSpec.ofChange predOrientsWrong)

/-- 'isohyetlaw06.PredOns': WHATEVER THE INPUT: true; the input reads as it did. -/
def predOnsSpec : ChangeSpec := { name := "predOns", fn := fun _ => fun
  | [d1, d2, d3] => { results := [.lit (.bool true)], args := [d1, d2, d3] }
  | _ => none }
def predOnsRow : OpenClaim := { program := "ytggbdfnoehienaa", sum := "cb6a43052ae97ef9a51e9f2d99220ca18d0153cfc0c54f0bd5654ec5840c1b83", func := "isohyet/isohyetlaw06.PredOns", spec := "predOns", inPlace := ["math/bits.Add64", "math/bits.Sub64"], unfollowed := true, recurses := true, apart := false }
def PredOnsSaid : Prop := predOnsRow.holds Try.pinned (OpenSpec.ofChange predOnsSpec)

/-- ITS FALSE NEIGHBOUR: 'it returns false'. Refute it at one input. -/
def predOnsWrong : ChangeSpec := { name := "predOns", fn := fun _ => fun
  | [d1, d2, d3] => { results := [.lit (.bool false)], args := [d1, d2, d3] }
  | _ => none }
def PredOnsWrongFalsely : Prop := predOnsRow.holds Try.pinned (OpenSpec.ofChange predOnsWrong)

/- THE SECOND FORM. 'bulk': how many values and letters a reading holds, each counted each time it is reached (what is shared counts as often as it is met; a slice's spare places count too). A statement '..UptoSaid' is the law's where the arguments, and the package variables that the reading takes, are together of bulk at most 1048576: NARROWER than '..Said'. Prove '..Said' where nothing that the law and all that it calls make is longer than what came in: it says more and counts as full. Else prove '..UptoSaid'. A law counts once. -/
mutual
def uptoBulk {H : Type} : DataW H → Nat
  | .lit (.string bytes) => bytes.length + 1
  | .lit _ => 1
  | .nil => 1
  | .ptr d => uptoBulk d + 1
  | .slice elems spare => uptoBulkAll elems + uptoBulkAll spare + 1
  | .agg parts => uptoBulkAll parts + 1
  | .iface _ d => uptoBulk d + 1
  | .map entries => uptoBulkEntries entries + 1
  | .held _ => 1
def uptoBulkAll {H : Type} : List (DataW H) → Nat
  | [] => 0
  | d :: r => uptoBulk d + uptoBulkAll r
def uptoBulkEntries {H : Type} : List (Lit × DataW H) → Nat
  | [] => 0
  | x :: r => uptoBulkEntry x + uptoBulkEntries r
def uptoBulkEntry {H : Type} : Lit × DataW H → Nat
  | (.string bytes, d) => bytes.length + uptoBulk d + 1
  | (_, d) => uptoBulk d + 1
 end
def uptoSmall : (H : Type) → List (DataW H) → Bool := fun _ ds => decide (uptoBulkAll ds ≤ 1048576)
def OpenSpec.upto (s : _root_.Go.ChangeSpec) : _root_.Go.OpenSpec := { _root_.Go.OpenSpec.ofChange s with cond := some uptoSmall }

/-- 'isohyetlaw05.WideCmps', WHERE WHAT IT READS IS OF BULK AT MOST 1048576: true; the input reads as it did. -/
def wideCmpsUptoRow : OpenClaim := { program := "ytggbdfnoehienaa", sum := "cb6a43052ae97ef9a51e9f2d99220ca18d0153cfc0c54f0bd5654ec5840c1b83", func := "isohyet/isohyetlaw05.WideCmps", spec := "wideCmps", inPlace := ["math/bits.Add64", "math/bits.Sub64"], apart := false, narrowed := true }
def WideCmpsUptoSaid : Prop := wideCmpsUptoRow.holds Try.pinned (OpenSpec.upto wideCmpsSpec)

/-- 'isohyetlaw05.WideLaws', WHERE WHAT IT READS IS OF BULK AT MOST 1048576: true; the input reads as it did. -/
def wideLawsUptoRow : OpenClaim := { program := "ytggbdfnoehienaa", sum := "cb6a43052ae97ef9a51e9f2d99220ca18d0153cfc0c54f0bd5654ec5840c1b83", func := "isohyet/isohyetlaw05.WideLaws", spec := "wideLaws", inPlace := ["math/bits.Add64", "math/bits.Sub64"], apart := false, narrowed := true }
def WideLawsUptoSaid : Prop := wideLawsUptoRow.holds Try.pinned (OpenSpec.upto wideLawsSpec)

/-- 'isohyetlaw05.WideAdds', WHERE WHAT IT READS IS OF BULK AT MOST 1048576: true; the input reads as it did. -/
def wideAddsUptoRow : OpenClaim := { program := "ytggbdfnoehienaa", sum := "cb6a43052ae97ef9a51e9f2d99220ca18d0153cfc0c54f0bd5654ec5840c1b83", func := "isohyet/isohyetlaw05.WideAdds", spec := "wideAdds", inPlace := ["math/bits.Add64", "math/bits.Sub64"], apart := false, narrowed := true }
def WideAddsUptoSaid : Prop := wideAddsUptoRow.holds Try.pinned (OpenSpec.upto wideAddsSpec)

/-- 'isohyetlaw05.WideDets', WHERE WHAT IT READS IS OF BULK AT MOST 1048576: true; the input reads as it did. -/
def wideDetsUptoRow : OpenClaim := { program := "ytggbdfnoehienaa", sum := "cb6a43052ae97ef9a51e9f2d99220ca18d0153cfc0c54f0bd5654ec5840c1b83", func := "isohyet/isohyetlaw05.WideDets", spec := "wideDets", inPlace := ["math/bits.Add64", "math/bits.Sub64"], apart := false, narrowed := true }
def WideDetsUptoSaid : Prop := wideDetsUptoRow.holds Try.pinned (OpenSpec.upto wideDetsSpec)

/-- 'isohyetlaw05.WideMuls', WHERE WHAT IT READS IS OF BULK AT MOST 1048576: true; the input reads as it did. -/
def wideMulsUptoRow : OpenClaim := { program := "ytggbdfnoehienaa", sum := "cb6a43052ae97ef9a51e9f2d99220ca18d0153cfc0c54f0bd5654ec5840c1b83", func := "isohyet/isohyetlaw05.WideMuls", spec := "wideMuls", inPlace := ["math/bits.Add64", "math/bits.Sub64"], apart := false, narrowed := true }
def WideMulsUptoSaid : Prop := wideMulsUptoRow.holds Try.pinned (OpenSpec.upto wideMulsSpec)

/-- 'isohyetlaw06.PredSquares', WHERE WHAT IT READS IS OF BULK AT MOST 1048576: true; the input reads as it did. -/
def predSquaresUptoRow : OpenClaim := { program := "ytggbdfnoehienaa", sum := "cb6a43052ae97ef9a51e9f2d99220ca18d0153cfc0c54f0bd5654ec5840c1b83", func := "isohyet/isohyetlaw06.PredSquares", spec := "predSquares", inPlace := ["math/bits.Add64", "math/bits.Sub64"], unfollowed := true, recurses := true, apart := false, narrowed := true }
def PredSquaresUptoSaid : Prop := predSquaresUptoRow.holds Try.pinned (OpenSpec.upto predSquaresSpec)

/-- 'isohyetlaw06.PredCircles', WHERE WHAT IT READS IS OF BULK AT MOST 1048576: true; the input reads as it did. -/
def predCirclesUptoRow : OpenClaim := { program := "ytggbdfnoehienaa", sum := "cb6a43052ae97ef9a51e9f2d99220ca18d0153cfc0c54f0bd5654ec5840c1b83", func := "isohyet/isohyetlaw06.PredCircles", spec := "predCircles", inPlace := ["math/bits.Add64", "math/bits.Sub64"], unfollowed := true, recurses := true, apart := false, narrowed := true }
def PredCirclesUptoSaid : Prop := predCirclesUptoRow.holds Try.pinned (OpenSpec.upto predCirclesSpec)

/-- 'isohyetlaw06.PredTriangles', WHERE WHAT IT READS IS OF BULK AT MOST 1048576: true; the input reads as it did. -/
def predTrianglesUptoRow : OpenClaim := { program := "ytggbdfnoehienaa", sum := "cb6a43052ae97ef9a51e9f2d99220ca18d0153cfc0c54f0bd5654ec5840c1b83", func := "isohyet/isohyetlaw06.PredTriangles", spec := "predTriangles", inPlace := ["math/bits.Add64", "math/bits.Sub64"], unfollowed := true, recurses := true, apart := false, narrowed := true }
def PredTrianglesUptoSaid : Prop := predTrianglesUptoRow.holds Try.pinned (OpenSpec.upto predTrianglesSpec)

/-- 'isohyetlaw06.PredCrosses', WHERE WHAT IT READS IS OF BULK AT MOST 1048576: true; the input reads as it did. -/
def predCrossesUptoRow : OpenClaim := { program := "ytggbdfnoehienaa", sum := "cb6a43052ae97ef9a51e9f2d99220ca18d0153cfc0c54f0bd5654ec5840c1b83", func := "isohyet/isohyetlaw06.PredCrosses", spec := "predCrosses", inPlace := ["math/bits.Add64", "math/bits.Sub64"], unfollowed := true, recurses := true, apart := false, narrowed := true }
def PredCrossesUptoSaid : Prop := predCrossesUptoRow.holds Try.pinned (OpenSpec.upto predCrossesSpec)

/-- 'isohyetlaw06.PredOrients', WHERE WHAT IT READS IS OF BULK AT MOST 1048576: true; the input reads as it did. -/
def predOrientsUptoRow : OpenClaim := { program := "ytggbdfnoehienaa", sum := "cb6a43052ae97ef9a51e9f2d99220ca18d0153cfc0c54f0bd5654ec5840c1b83", func := "isohyet/isohyetlaw06.PredOrients", spec := "predOrients", inPlace := ["math/bits.Add64", "math/bits.Sub64"], unfollowed := true, recurses := true, apart := false, narrowed := true }
def PredOrientsUptoSaid : Prop := predOrientsUptoRow.holds Try.pinned (OpenSpec.upto predOrientsSpec)

/-- 'isohyetlaw06.PredOns', WHERE WHAT IT READS IS OF BULK AT MOST 1048576: true; the input reads as it did. -/
def predOnsUptoRow : OpenClaim := { program := "ytggbdfnoehienaa", sum := "cb6a43052ae97ef9a51e9f2d99220ca18d0153cfc0c54f0bd5654ec5840c1b83", func := "isohyet/isohyetlaw06.PredOns", spec := "predOns", inPlace := ["math/bits.Add64", "math/bits.Sub64"], unfollowed := true, recurses := true, apart := false, narrowed := true }
def PredOnsUptoSaid : Prop := predOnsUptoRow.holds Try.pinned (OpenSpec.upto predOnsSpec)

end Rows
end Go.Proofs.Ytggbdfnoehienaa
