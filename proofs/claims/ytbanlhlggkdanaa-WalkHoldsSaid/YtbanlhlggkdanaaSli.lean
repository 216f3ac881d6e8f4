/- Slices written out, of elements of more than one cell; the least and the greatest of two ints. -/
import Derived.Test.YtbanlhlggkdanaaArr
import Derived.Laws.Small
import Derived.Laws.Cover1
set_option linter.unusedSimpArgs false
set_option linter.unusedVariables false
namespace Go.Proofs.Ytbanlhlggkdanaa
open Go.RowKit

theorem wr_list : ∀ (vs : List Value) (cs : Array Value) (off : Nat), off + vs.length ≤ cs.size → (wr cs off vs).toList = cs.toList.take off ++ (vs ++ cs.toList.drop (off + vs.length))
  | [], cs, off, _ => by simp [wr]
  | v :: vs, cs, off, h => by
    simp only [List.length_cons] at h
    rw [wr, wr_list vs _ _ (by simp; omega)]
    rw [Array.toList_setIfInBounds, List.take_set, List.drop_set_of_lt (by omega), List.take_add_one, List.set_append]
    have hl : (cs.toList.take off).length = off := by simp; omega
    rw [if_neg (by omega), hl, Nat.sub_self, List.getElem?_eq_getElem (by simp; omega)]
    simp [Nat.add_comm 1, Nat.add_assoc]
theorem zip_wr : ∀ (l : List Value) (k off : Nat) (cs : Array Value), (l.zipIdx k).foldl (fun (cs : Array Value) (x : Value × Nat) => cs.setIfInBounds (off + x.2) x.1) cs = wr cs (off + k) l
  | [], _, _, _ => rfl
  | v :: l, k, off, cs => by
    rw [List.zipIdx_cons, List.foldl_cons, zip_wr l (k + 1) off]
    rfl
theorem fill_seq (size : Nat) : ∀ (vs : List Value) (k : Nat) (cs : Array Value), (∀ v ∈ vs, v.cells.size = size) → cs.size = (k + vs.length) * size →
    Instr.fill (fun i => some (i * size, size)) cs (vs.zipIdx k |>.map fun p => (p.2, p.1)) = some (cs.toList.take (k * size) ++ vs.flatMap (·.cells.toList)).toArray
  | [], k, cs, _, hc => by
    simp only [List.zipIdx_nil, List.map_nil, Instr.fill, List.flatMap_nil, List.append_nil]
    rw [List.take_of_length_le (by simp at hc; simp [hc])]
  | v :: vs, k, cs, hv, hc => by
    have h1 := hv v (.head _)
    have hs : k * size + size ≤ cs.size := by
      rw [hc, List.length_cons, ← Nat.succ_mul]
      exact Nat.mul_le_mul_right _ (by omega)
    simp only [List.zipIdx_cons, List.map_cons, Instr.fill]
    rw [if_neg (by simp only [h1, bne_self_eq_false, ne_eq, not_true_eq_false, decide_false, Bool.false_or, decide_eq_true_eq]; omega)]
    have hz : v.cells.zipIdx.foldl (fun (cs : Array Value) (x : Value × Nat) => match x with | (c, j) => cs.setIfInBounds (k * size + j) c) cs = wr cs (k * size) v.cells.toList := by
      have := zip_wr v.cells.toList 0 (k * size) cs
      rw [Nat.add_zero] at this
      rw [← this, ← Array.foldl_toList, Array.toList_zipIdx]
    rw [hz, fill_seq size vs (k + 1) _ (fun u hu => hv u (.tail _ hu)) (by rw [wr_size, hc, List.length_cons, show k + (vs.length + 1) = k + 1 + vs.length by omega])]
    rw [wr_list _ _ _ (by rw [Array.length_toList, h1]; exact hs)]
    have h2 : (k + 1) * size = k * size + v.cells.toList.length := by rw [Nat.succ_mul, Array.length_toList, h1]
    have h3 : (cs.toList.take (k * size)).length = k * size := by rw [List.length_take, Array.length_toList]; omega
    rw [h2, List.take_append, h3]
    simp only [Nat.add_sub_cancel_left, List.flatMap_cons]
    rw [List.take_of_length_le (by omega), List.take_append, List.take_of_length_le (Nat.le_refl _)]
    simp

section
variable {E : Env} {ty : TypeId} {σ : List (Nat × Value)} {μ φ : List Res}
theorem YJ_min2 {x y : Operand} {at_ : Array TypeId} {k k' : IntKind} {a b : Int} (hx : oev σ x = some (.int k a)) (hy : oev σ y = some (.int k' b)) :
    YJ E (.call { callee := .builtin .min, args := #[x, y], argTypes := at_ }) ty σ μ φ (.int k (min a b)) := fun ac w _ _ _ _ hs _ _ => by
  simp only [execOp, hs.ev hx, hs.ev hy]
  simp [resolve, invoke, builtin, hs.ev hx, hs.ev hy, run_min_int2]
  omega
theorem YJ_max2 {x y : Operand} {at_ : Array TypeId} {k k' : IntKind} {a b : Int} (hx : oev σ x = some (.int k a)) (hy : oev σ y = some (.int k' b)) :
    YJ E (.call { callee := .builtin .max, args := #[x, y], argTypes := at_ }) ty σ μ φ (.int k (max a b)) := fun ac w _ _ _ _ hs _ _ => by
  simp only [execOp, hs.ev hx, hs.ev hy]
  simp [resolve, invoke, builtin, hs.ev hx, hs.ev hy, run_max_int2]
  omega
theorem YJ_min3 {x y z : Operand} {at_ : Array TypeId} {k k' k'' : IntKind} {a b c : Int} (hx : oev σ x = some (.int k a)) (hy : oev σ y = some (.int k' b)) (hz : oev σ z = some (.int k'' c)) :
    YJ E (.call { callee := .builtin .min, args := #[x, y, z], argTypes := at_ }) ty σ μ φ (.int k (min (min a b) c)) := fun ac w _ _ _ _ hs _ _ => by
  simp only [execOp, hs.ev hx, hs.ev hy, hs.ev hz]
  simp [resolve, invoke, builtin, hs.ev hx, hs.ev hy, hs.ev hz, run_min_int3]
  omega
/-- a slice written out, all of its elements given, in order -/
theorem OJ_buildSliceN {t e : TypeId} {len size bytes : Nat} {z : Value} {parts : Array (Nat × Operand)} {vs : List Value} {cs : List Value} (he : elt E.P t = some (e, size, bytes)) (hz : zer E.P e = some z) (hl : len * size ≤ 16777216) (h0 : len * size ≠ 0) (hs1 : z.cells.size = size)
    (hp : oevP σ parts.toList = some (vs.zipIdx 0 |>.map fun p => (p.2, p.1))) (hlen : vs.length = len) (hv : vs.all (fun v => Nat.beq v.cells.size size) = true) (hc : vs.flatMap (·.cells.toList) = cs) :
    OJ E (.buildSlice t len parts) ty σ μ φ (fun u μ' φ' => ∃ b, u = .slice (some ⟨b, 0, none⟩) len len ∧ μ' = cellsR b cs.toArray e :: μ ∧ φ' = φ) := fun a w d pos af g K Q hs hm hK => by
  subst hc
  subst hlen
  unfold elt at he
  cases hu : E.P.underlying t with
  | none => rw [hu] at he; simp at he
  | some d' =>
    rw [hu] at he
    cases d' <;> simp at he
    rename_i e'
    obtain ⟨i, hi, rfl, hi1, rfl⟩ := he
    have hz' : (zeroValue e').run E.P w = .ok z w := run_zeroValue' hz w
    have hsz : (sizeOf e').run E.P w = .ok size w := by simp [sizeOf, typeInfo, hi, hi1]
    have hparts : (parts.map fun (p : Nat × Operand) => (p.1, a.eval p.2)).toList = (vs.zipIdx 0).map fun p => (p.2, p.1) := by
      have := hs.evP hp
      simpa using this
    have hv' : ∀ v ∈ vs, v.cells.size = size := fun v h => Nat.eq_of_beq_eq_true (List.all_eq_true.1 hv v h)
    have hfill := fill_seq size vs 0 ((Array.range (vs.length * size)).map (z.cells[· % z.cells.size]!)) hv' (by simp)
    rw [Nat.zero_mul, List.take_zero, List.nil_append] at hfill
    have : (execOp a.eval ⟨d, .buildSlice t vs.length parts, ty, pos, af, g⟩).run E.P w = .ok (.value (.slice (some ⟨w.heap.size, 0, none⟩) vs.length vs.length)) (w.alloc (.cells (vs.flatMap (·.cells.toList)).toArray e')) := by
      simp only [execOp, Instr.buildSlice, Sem.run_bind, run_underlying hu, Result.andThen_ok, hsz]
      rw [if_neg (by omega), if_neg h0]
      simp only [Sem.run_bind, hz', Result.andThen_ok, Sem.run_pure]
      rw [hparts, hfill]
      simp [newRow, newObj, Sem.run]
    unfold Oper.wp
    rw [this, Oper.upon_value]
    exact hK _ _ _ _ ⟨w.heap.size, rfl, rfl, rfl⟩ (hm.new _ _)
end
section
variable {E : Env} {ty : TypeId} {σ : List (Nat × Value)} {μ φ : List Res}
variable {Q : Qt} {ops : Array Oper} {rest : List Oper} {d : Tmp} {pos : String} {af : Array Edge} {g : Option (Nat × Bool)} {ml pl : List Res} {fuel : Nat} {listed : Array Bool}
theorem LJ_buildSliceN {t e : TypeId} {len size bytes : Nat} {z : Value} {parts : Array (Nat × Operand)} {vs : List Value} {cs : List Value} (hg : grd ops σ g = some true) (hd : Nat.blt d E.N = true) (he : elt E.P t = some (e, size, bytes)) (hz : zer E.P e = some z) (hl : len * size ≤ 16777216) (h0 : len * size ≠ 0) (hs1 : z.cells.size = size)
    (hp : oevP σ parts.toList = some (vs.zipIdx 0 |>.map fun p => (p.2, p.1))) (hlen : vs.length = len) (hv : vs.all (fun v => Nat.beq v.cells.size size) = true) (hc : vs.flatMap (·.cells.toList) = cs)
    (h : ∀ b, LJ E Q ops rest ((d, .slice (some ⟨b, 0, none⟩) len len) :: σ) (cellsR b cs.toArray e :: μ) φ) : LJ E Q ops (⟨some d, .buildSlice t len parts, ty, pos, af, g⟩ :: rest) σ μ φ :=
  LJ_o hg hd (OJ_buildSliceN he hz hl h0 hs1 hp hlen hv hc) (by rintro _ _ _ ⟨b, rfl, rfl, rfl⟩; exact h b)
theorem AJ_buildSliceN {t e : TypeId} {len size bytes : Nat} {z : Value} {parts : Array (Nat × Operand)} {vs : List Value} {cs : List Value} (i : Nat) (hi : ops[i]? = some ⟨some d, .buildSlice t len parts, ty, pos, af, g⟩) (hr : Region.ready .any ops listed = [i]) (hg : grd ops σ g = some true) (hd : Nat.blt d E.N = true)
    (he : elt E.P t = some (e, size, bytes)) (hz : zer E.P e = some z) (hl : len * size ≤ 16777216) (h0 : len * size ≠ 0) (hs1 : z.cells.size = size)
    (hp : oevP σ parts.toList = some (vs.zipIdx 0 |>.map fun p => (p.2, p.1))) (hlen : vs.length = len) (hv : vs.all (fun v => Nat.beq v.cells.size size) = true) (hc : vs.flatMap (·.cells.toList) = cs)
    (h : ∀ b, AJ E Q ops ml pl fuel (listed.setIfInBounds i true) ((d, .slice (some ⟨b, 0, none⟩) len len) :: σ) (cellsR b cs.toArray e :: μ) φ) : AJ E Q ops ml pl (fuel + 1) listed σ μ φ :=
  AJ_o i hi hr hg hd (OJ_buildSliceN he hz hl h0 hs1 hp hlen hv hc) (by rintro _ _ _ ⟨b, rfl, rfl, rfl⟩; exact ⟨fun r _ h => .tail _ h, fun r _ h => h, h b⟩)
end
end Go.Proofs.Ytbanlhlggkdanaa
