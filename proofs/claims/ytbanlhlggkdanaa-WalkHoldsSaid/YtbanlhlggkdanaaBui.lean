/- Slices written out in a region that also makes variables: the new slice is a fact at once. -/
import Derived.Test.YtbanlhlggkdanaaPha
import Derived.Test.YtbanlhlggkdanaaAllo
set_option linter.unusedSimpArgs false
set_option linter.unusedVariables false
namespace Go.Proofs.Ytbanlhlggkdanaa
open Go.RowKit

section
variable {E : Env} {ty : TypeId} {σ : List (Nat × Value)} {μ φ : List Res}
theorem OJ_buildSliceF {t e : TypeId} {len size bytes : Nat} {z : Value} {parts : Array (Nat × Operand)} {vs : List Value} {cs : List Value} (he : elt E.P t = some (e, size, bytes)) (hz : zer E.P e = some z) (hl : len * size ≤ 16777216) (h0 : len * size ≠ 0) (hs1 : z.cells.size = size)
    (hp : oevP σ parts.toList = some (vs.zipIdx 0 |>.map fun p => (p.2, p.1))) (hlen : vs.length = len) (hv : vs.all (fun v => Nat.beq v.cells.size size) = true) (hc : vs.flatMap (·.cells.toList) = cs) (hcl : cs.length = len * size) :
    OJ E (.buildSlice t len parts) ty σ μ φ (fun u μ' φ' => (∃ b, u = .slice (some ⟨b, 0, none⟩) len len ∧ φ' = sliceR size (some ⟨b, 0, none⟩) len cs :: cellsR b cs.toArray e :: φ) ∧ μ' = μ) := fun a w d pos af g K Q hs hm hK => by
  refine OJ_buildSliceN he hz hl h0 hs1 hp hlen hv hc a w d pos af g K Q hs hm ?_
  rintro v μ' φ' w' ⟨b, rfl, rfl, rfl⟩ hm'
  refine hK _ _ _ _ ⟨⟨b, rfl, rfl⟩, rfl⟩ (hm'.freeze.addF (.head _) fun S h => ?_)
  have := cellsR_slice (n := len) (size := size) (by simpa using hcl) w' S h
  simpa using this
variable {Q : Qt} {ops : Array Oper} {ml pl : List Res} {A : List Al} {fuel : Nat} {L : Array Bool}
theorem AA_buildSliceN {d : Tmp} {pos : String} {af : Array Edge} {g : Option (Nat × Bool)} {t e : TypeId} {len size bytes : Nat} {z : Value} {parts : Array (Nat × Operand)} {vs : List Value} {cs : List Value} (i : Nat) (hi : ops[i]? = some ⟨some d, .buildSlice t len parts, ty, pos, af, g⟩)
    (hc : allBits A.length (fun bs => (Region.ready .any ops (lsB A bs L)).all (fun j => Nat.beq j i || (pendB A bs).contains j) && !(Region.ready .any ops (lsB A bs L)).isEmpty) = true)
    (hfr : Frs σ A = true)
    (hg : grd ops σ g = some true) (hd : Nat.blt d E.N = true) (hda : (dsts A).contains d = false)
    (he : elt E.P t = some (e, size, bytes)) (hz : zer E.P e = some z) (hl : len * size ≤ 16777216) (h0 : len * size ≠ 0) (hs1 : z.cells.size = size)
    (hp : oevP σ parts.toList = some (vs.zipIdx 0 |>.map fun p => (p.2, p.1))) (hlen : vs.length = len) (hv : vs.all (fun v => Nat.beq v.cells.size size) = true) (hcs : vs.flatMap (·.cells.toList) = cs) (hcl : cs.length = len * size)
    (h : ∀ b, AA E Q ops ml pl A fuel (L.setIfInBounds i true) ((d, .slice (some ⟨b, 0, none⟩) len len) :: σ) μ (sliceR size (some ⟨b, 0, none⟩) len cs :: cellsR b cs.toArray e :: φ)) : AA E Q ops ml pl A (fuel + 1) L σ μ φ :=
  AA_o i hi hc hfr hg hd hda (C := fun u φ' => ∃ b, u = .slice (some ⟨b, 0, none⟩) len len ∧ φ' = sliceR size (some ⟨b, 0, none⟩) len cs :: cellsR b cs.toArray e :: φ) (fun μ' => OJ_buildSliceF he hz hl h0 hs1 hp hlen hv hcs hcl)
    (by rintro _ _ ⟨b, rfl, rfl⟩; exact ⟨fun r _ h => .tail _ (.tail _ h), h b⟩)
end
end Go.Proofs.Ytbanlhlggkdanaa
