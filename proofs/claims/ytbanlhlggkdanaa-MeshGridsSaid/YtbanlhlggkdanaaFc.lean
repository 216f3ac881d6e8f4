/- What the law MeshGrids needs. Part 3: the texts of Map Ent Fit Cln Def S1 S2 S3 J1 J2 J3 J4 K1. -/
import Derived.Test.YtbanlhlggkdanaaFb
import Derived.Maps.RangeRun
import Derived.WideKeyRuns
import Derived.Lib.SliceRun
set_option linter.unusedSimpArgs false
set_option linter.unusedVariables false
set_option linter.unusedSectionVars false
namespace Go.Proofs.Ytbanlhlggkdanaa
open Go.RowKit
section
variable {κ ν : Type} [DecidableEq κ]
def entV (f : κ → Value) (g : ν → Value) (e : κ × ν × Nat) : MapEntry := { key := f e.1, val := g e.2.1, born := e.2.2 }
theorem erase_map {α β : Type} (h : α → β) : ∀ (l : List α) (i : Nat), (l.map h).eraseIdx i = (l.eraseIdx i).map h
  | [], _ => rfl
  | _ :: _, 0 => rfl
  | x :: l, i + 1 => by simp [erase_map h l i]
def mfind (k : κ) : List (κ × ν × Nat) → Nat → Option (Nat × ν)
  | [], _ => none
  | e :: r, i => if k = e.1 then some (i, e.2.1) else mfind k r (i + 1)
def mget (k : κ) (l : List (κ × ν × Nat)) : Option ν := (mfind k l 0).map (·.2)
def mput (k : κ) (v : ν) (l : List (κ × ν × Nat)) (c : Nat) : List (κ × ν × Nat) := match mfind k l 0 with
  | some (i, _) => l.modify i (fun e => (e.1, v, e.2.2))
  | none => l ++ [(k, v, c)]
def mclk (k : κ) (l : List (κ × ν × Nat)) (c : Nat) : Nat := match mfind k l 0 with
  | some _ => c
  | none => c + 1
def mdel (k : κ) (l : List (κ × ν × Nat)) : List (κ × ν × Nat) := match mfind k l 0 with
  | some (i, _) => l.eraseIdx i
  | none => l
theorem mfind_key {k : κ} : ∀ {l : List (κ × ν × Nat)} {b i : Nat} {v : ν}, mfind k l b = some (i, v) → b ≤ i ∧ ∃ e, l[i - b]? = some e ∧ e.1 = k ∧ e.2.1 = v
  | [], b, i, v, h => by simp [mfind] at h
  | e :: r, b, i, v, h => by
    unfold mfind at h
    split at h
    · rename_i hk
      simp only [Option.some.injEq, Prod.mk.injEq] at h
      obtain ⟨rfl, rfl⟩ := h
      exact ⟨Nat.le_refl _, e, by simp, hk.symm, rfl⟩
    · obtain ⟨h1, e', h2, h3, h4⟩ := mfind_key h
      refine ⟨by omega, e', ?_, h3, h4⟩
      rw [show i - b = (i - (b + 1)) + 1 by omega]
      simpa using h2
structure KeyT (P : Program) (kt : TypeId) (f : κ → Value) : Prop where
  chk : ∀ (e : Bool) (k : κ) (w : World), (Instr.checkKey e 10000 kt (f k)).run P w = .ok () w
  find : ∀ {ν : Type} (g : ν → Value) (k : κ) (l : List (κ × ν × Nat)) (w : World), (Instr.findKey kt (f k) (l.map (entV f g))).run P w = .ok ((mfind k l 0).map fun p => (p.1, g p.2)) w
  same : ∀ k, Instr.sameBits 10000 (f k) (f k) = true
theorem run_findAsk {P : Program} {kt : TypeId} {f : κ → Value} (hE : ∀ a b w, (Op.equal kt (f a) (f b)).run P w = .ok (decide (a = b)) w) (g : ν → Value) (k : κ) :
    ∀ (l : List (κ × ν × Nat)) (i : Nat) (w : World), (Instr.findAsking kt (f k) (l.map (entV f g)) i).run P w = .ok ((mfind k l i).map fun p => (p.1, g p.2)) w
  | [], i, w => by simp [Instr.findAsking, mfind]
  | e :: r, i, w => by
    have ih := run_findAsk hE g k r (i + 1) w
    simp only [List.map_cons, Instr.findAsking, Sem.run_bind]
    rw [show (entV f g e).key = f e.1 from rfl, hE k e.1 w]
    unfold mfind
    by_cases hk : k = e.1
    · simp [hk, entV]
    · simp only [hk, decide_false, Result.andThen_ok, if_false]
      exact ih
def mapR (r : Nat) (f : κ → Value) (g : ν → Value) (l : List (κ × ν × Nat)) (c : Nat) : Res := objR r (.map (l.map (entV f g)).toArray c)
end
theorem keyInt {P : Program} {kt : TypeId} {q : IntKind} (hu : P.underlying kt = some (.int q)) : KeyT P kt (fun (x : Int) => Value.int .i64 x) where
  chk e k w := by
    rw [show (10000 : Nat) = 9999 + 1 from rfl]
    generalize 9999 = n
    simp [Instr.checkKey, run_underlying hu]
  find := fun {ν} g k l w => by
    have key : ∀ (l : List (Int × ν × Nat)) (i : Nat), Instr.findNow (.int q) (.int .i64 k) (l.map (entV (fun (x : Int) => Value.int .i64 x) g)) i = some ((mfind k l i).map fun p => (p.1, g p.2)) := by
      intro l
      induction l with
      | nil => intro i; rfl
      | cons e r ih =>
        intro i
        simp only [List.map_cons, Instr.findNow, entV, Instr.sameNow, if_true]
        unfold mfind
        by_cases hk : k = e.1
        · simp [hk]
        · have : (k == e.1) = false := by simpa using hk
          simp only [this, hk, if_false]
          exact ih (i + 1)
    simp [Instr.findKey, run_underlying hu, key]
  same k := by
    rw [show (10000 : Nat) = 9999 + 1 from rfl]
    generalize 9999 = n
    simp [Instr.sameBits]
theorem keyTwo {P : Program} {kt : TypeId} (hw : (match P.underlying kt with | some (.array _ _) | some (.struct _) => true | _ => false) = true)
    (hc : ∀ (e : Bool) (a b : Int) (w : World), (Instr.checkKey e 10000 kt (.agg #[.int .i64 a, .int .i64 b])).run P w = .ok () w)
    (hE : ∀ (a b c d : Int) (w : World), (Op.equal kt (.agg #[.int .i64 a, .int .i64 b]) (.agg #[.int .i64 c, .int .i64 d])).run P w = .ok (decide (a = c) && decide (b = d)) w) : KeyT P kt (fun (x : Int × Int) => Value.agg #[.int .i64 x.1, .int .i64 x.2]) where
  chk e k w := hc e k.1 k.2 w
  find := fun {ν} g k l w => by
    rw [run_findKey_eq w hw]
    refine run_findAsk (f := fun (x : Int × Int) => Value.agg #[.int .i64 x.1, .int .i64 x.2]) (fun a b w => ?_) g k l 0 w
    rw [hE]
    congr 1
    by_cases h1 : a.1 = b.1 <;> by_cases h2 : a.2 = b.2 <;> simp [Prod.ext_iff, h1, h2]
  same k := by
    rw [show (10000 : Nat) = 9998 + 1 + 1 from rfl]
    generalize 9998 = n
    simp [Instr.sameBits]
section
variable {κ ν : Type} [DecidableEq κ] {f : κ → Value} {g : ν → Value} {l : List (κ × ν × Nat)} {c r : Nat}
variable {E : Env} {ty : TypeId} {σ : List (Nat × Value)} {μ φ : List Res}
def MapAt (μ φ : List Res) (r : Nat) (es : Array MapEntry) (c : Nat) : Prop := ∀ w, Hold w μ → Hold w φ → w.heap[r]? = some (.map es c)
theorem MapAt_own (hm : mapR r f g l c ∈ μ) : MapAt μ φ r (l.map (entV f g)).toArray c := fun w h1 _ => by
  obtain ⟨S, h, _⟩ := h1 _ hm
  exact h
theorem MapAt_fact (hm : mapR r f g l c ∈ φ) : MapAt μ φ r (l.map (entV f g)).toArray c := fun w _ h2 => by
  obtain ⟨S, h, _⟩ := h2 _ hm
  exact h
theorem OJ_makeMap {t : TypeId} : OJ E (.makeMap t none) ty σ μ φ (fun v μ' φ' => ∃ b, v = .map (some b) ∧ μ' = objR b (.map #[] 0) :: μ ∧ φ' = φ) := fun a w d pos af gd K Q hs hm hK => by
  have : (execOp a.eval ⟨d, .makeMap t none, ty, pos, af, gd⟩).run E.P w = .ok (.value (.map (some w.heap.size))) (w.alloc (.map #[] 0)) := by
    simp only [execOp, Option.map_none]
    simp [Instr.makeMap, run_newObj_alloc]
  unfold Oper.wp
  rw [this, Oper.upon_value]
  exact hK _ _ _ _ ⟨w.heap.size, rfl, rfl, rfl⟩ (hm.newObj _)
theorem run_lookup {P : Program} {t kt et : TypeId} {z : Value} {w : World} {k : κ} (hu : P.underlying t = some (.map kt et)) (hK : KeyT P kt f) (hz : zer P et = some z) (hb : w.heap[r]? = some (.map (l.map (entV f g)).toArray c)) (ok : Bool) :
    (Instr.lookup t (.map (some r)) (f k) ok).run P w = .ok (if ok then .tuple #[((mget k l).map g).getD z, .bool (mget k l).isSome] else ((mget k l).map g).getD z) w := by
  have h1 := hK.chk (l.map (entV f g)).toArray.isEmpty k w
  have h2 := hK.find g k l w
  simp only [Instr.lookup, Sem.run_bind, run_underlying hu, Result.andThen_ok, MapKept.run_getObj_map hb, Sem.run_pure, h1, h2]
  unfold mget
  cases hf : mfind k l 0 with
  | none => cases ok <;> simp [run_zeroValue' hz]
  | some p => cases ok <;> simp
theorem YJ_lookup {t kt et : TypeId} {x y : Operand} {z : Value} {k : κ} {ok : Bool} {v : Value} (hx : oev σ x = some (.map (some r))) (hy : oev σ y = some (f k)) (hu : E.P.underlying t = some (.map kt et)) (hK : KeyT E.P kt f) (hz : zer E.P et = some z) (hm : MapAt μ φ r (l.map (entV f g)).toArray c)
    (hv : (if ok then .tuple #[((mget k l).map g).getD z, .bool (mget k l).isSome] else ((mget k l).map g).getD z) = v) : YJ E (.lookup t x y ok) ty σ μ φ v := fun a w d pos af gd hs h1 h2 => by
  subst hv
  simp only [execOp, hs.ev hx, hs.ev hy]
  simp [run_lookup (k := k) hu hK hz (hm w h1 h2) ok]
theorem YJ_lenMap {x : Operand} {t kt et : TypeId} {n : Nat} (hx : oev σ x = some (.map (some r))) (hu : E.P.underlying t = some (.map kt et)) (hm : MapAt μ φ r (l.map (entV f g)).toArray c) (hn : l.length = n) :
    YJ E (.call { callee := .builtin .len, args := #[x], argTypes := #[t] }) ty σ μ φ (.int .i64 n) := fun a w d pos af gd hs h1 h2 => by
  subst hn
  simp only [execOp, hs.ev hx]
  have hb := hm w h1 h2
  simp [resolve, invoke, builtin, hs.ev hx, Builtin.len_, run_underlying hu, MapKept.run_getObj_map hb, goInt]
theorem OJ_putObj {k : Nat} {op : Op} {b : Nat} {o o' : Obj} (hk : μ[k]? = some (objR b o)) {nx : Next} {v : Value} (hnx : nx = .skip ∨ nx = .value v)
    (hr : ∀ a w d pos af gd, Slots σ a → OKm E μ φ w → w.heap[b]? = some o → (execOp a.eval ⟨d, op, ty, pos, af, gd⟩).run E.P w = .ok nx (w.putObj b o')) :
    OJ E op ty σ μ φ (fun u μ' φ' => (nx = .value v → u = v) ∧ μ' = μ.set k (objR b o') ∧ φ' = φ) := fun a w d pos af gd K Q hs hm hK => by
  have h1 : OKm E (objR b o :: μ.eraseIdx k) φ w := hm.weak (μr := []) (by simpa using perm_at hk) (fun _ h => h)
  have h2 := hr a w d pos af gd hs hm h1.objAt
  have h3 : OKm E (μ.set k (objR b o')) φ (w.putObj b o') := (h1.putObj o').weak (μr := []) (by simpa using perm_set _ hk) (fun _ h => h)
  unfold Oper.wp
  rcases hnx with rfl | rfl
  · rw [h2, Oper.upon_skip]
    exact hK _ _ _ _ ⟨(fun h => nomatch h), rfl, rfl⟩ h3
  · rw [h2, Oper.upon_value]
    exact hK _ _ _ _ ⟨fun _ => rfl, rfl, rfl⟩ h3
theorem modify_ent {l : List (κ × ν × Nat)} {i : Nat} {v : ν} {e : κ × ν × Nat} (he : l[i]? = some e) : (l.map (entV f g)).toArray.modify i (fun q => { q with key := f e.1, val := g v }) = ((l.modify i (fun e => (e.1, v, e.2.2))).map (entV f g)).toArray := by
  apply Array.toList_inj.1
  apply List.ext_getElem?
  intro j
  simp only [Array.toList_modify, List.getElem?_modify, List.getElem?_map]
  by_cases hj : i = j
  · subst hj
    simp [he, entV]
  · simp [hj]
theorem OJ_mapUpdate {t kt et : TypeId} {x y z : Operand} {k : κ} {v : ν} {l' : List (κ × ν × Nat)} {c' : Nat} (n : Nat) (hk : μ[n]? = some (mapR r f g l c)) (hx : oev σ x = some (.map (some r))) (hy : oev σ y = some (f k)) (hz : oev σ z = some (g v)) (hu : E.P.underlying t = some (.map kt et)) (hK : KeyT E.P kt f)
    (hl : mput k v l c = l') (hc : mclk k l c = c') : OJ E (.mapUpdate t x y z) ty σ μ φ (fun _ μ' φ' => μ' = μ.set n (mapR r f g l' c') ∧ φ' = φ) := by
  subst hl; subst hc
  refine OJ_conv (OJ_putObj (o' := .map ((mput k v l c).map (entV f g)).toArray (mclk k l c)) hk (nx := .skip) (v := undef) (.inl rfl) ?_) (fun u μ' φ' h => ⟨_, ⟨h.2.1, h.2.2⟩, List.Perm.refl _⟩)
  intro a w d pos af gd hs hm hb
  have h1 := hK.chk false k w
  have h2 := hK.find g k l w
  simp only [execOp, hs.ev hx, hs.ev hy, hs.ev hz]
  simp only [Instr.mapUpdate, Sem.run_bind, run_underlying hu, Result.andThen_ok, MapKept.run_getObj_map hb, h1, h2]
  unfold mput mclk
  cases hf : mfind k l 0 with
  | none =>
    simp only [Option.map_none, MapKept.run_setObj_map _ hb]
    simp [World.putObj, entV]
  | some p =>
    obtain ⟨i, v0⟩ := p
    obtain ⟨_, e, he, hek, _⟩ := mfind_key hf
    simp only [Nat.sub_zero] at he
    have hkey : ((((l.map (entV f g)).toArray)[i]?).map (·.key)).getD (f k) = f k := by
      simp [he, entV, hek]
    have hks : (Instr.keyThatStays (f k) (f k)).run E.P w = .ok (f k) w := by
      unfold Instr.keyThatStays
      simp [hK.same k]
    have hmod := modify_ent (f := f) (g := g) (v := v) he
    rw [hek] at hmod
    simp only [Option.map_some, Sem.run_bind, hkey, hks, Result.andThen_ok, MapKept.run_setObj_map _ hb]
    simp only [World.putObj, hmod]
    rfl
theorem OJ_delete {t kt et t2 : TypeId} {x y : Operand} {k : κ} {l' : List (κ × ν × Nat)} (n : Nat) (hk : μ[n]? = some (mapR r f g l c)) (hx : oev σ x = some (.map (some r))) (hy : oev σ y = some (f k)) (hu : E.P.underlying t = some (.map kt et)) (hK : KeyT E.P kt f)
    (hl : mdel k l = l') : OJ E (.call { callee := .builtin .delete, args := #[x, y], argTypes := #[t, t2] }) ty σ μ φ (fun v μ' φ' => v = .tuple #[] ∧ μ' = μ.set n (mapR r f g l' c) ∧ φ' = φ) := by
  subst hl
  refine OJ_conv (OJ_putObj (o' := .map ((mdel k l).map (entV f g)).toArray c) hk (nx := .value (.tuple #[])) (v := .tuple #[]) (.inr rfl) ?_) (fun u μ' φ' h => ⟨_, ⟨h.1 rfl, h.2.1, h.2.2⟩, List.Perm.refl _⟩)
  intro a w d pos af gd hs hm hb
  have h1 := hK.chk (l.map (entV f g)).toArray.isEmpty k w
  have h2 := hK.find g k l w
  simp only [execOp, resolve, invoke, builtin, Sem.run_bind, Sem.run_pure, Result.andThen_ok, List.map_toArray, List.map_cons, List.map_nil, hs.ev hx, hs.ev hy]
  simp only [Builtin.delete_, Sem.run_bind, List.getElem?_toArray, List.getElem?_cons_zero, List.getElem?_cons_succ, run_underlying hu, Result.andThen_ok, MapKept.run_getObj_map hb, h1, h2]
  unfold mdel
  cases hf : mfind k l 0 with
  | none =>
    simp [MapKept.run_setObj_map _ hb, World.putObj]
  | some p =>
    obtain ⟨i, v0⟩ := p
    have : ((l.map (entV f g)).toArray).eraseIdxIfInBounds i = ((l.eraseIdx i).map (entV f g)).toArray := by
      apply Array.toList_inj.1
      simp [erase_map]
    simp [MapKept.run_setObj_map _ hb, World.putObj, this]
def itR (it r since : Nat) (seen : List Nat) (c0 : Nat) : Res := objR it (.mapIter (some r) since seen.toArray c0)
theorem OJ_range {t kt et : TypeId} {x : Operand} (hx : oev σ x = some (.map (some r))) (hu : E.P.underlying t = some (.map kt et)) (hm : MapAt μ φ r (l.map (entV f g)).toArray c) :
    OJ E (.range t x) ty σ μ φ (fun v μ' φ' => ∃ b, v = .pointer (some ⟨b, 0, none⟩) ∧ μ' = itR b r c [] c :: μ ∧ φ' = φ) := fun a w d pos af gd K Q hs hm0 hK => by
  have hb := hm w hm0.hold.1 hm0.hold.2
  have : (execOp a.eval ⟨d, .range t x, ty, pos, af, gd⟩).run E.P w = .ok (.value (.pointer (some ⟨w.heap.size, 0, none⟩))) (w.alloc (.mapIter (some r) c #[] c)) := by
    simp only [execOp, hs.ev hx]
    simp [run_range_map w t kt et r _ c hu hb]
  unfold Oper.wp
  rw [this, Oper.upon_value]
  exact hK _ _ _ _ ⟨w.heap.size, rfl, rfl, rfl⟩ (hm0.newObj _)
def leftL (l : List (κ × ν × Nat)) (seen : List Nat) : List (κ × ν × Nat) := l.filter fun e => !seen.contains e.2.2
theorem left_map (l : List (κ × ν × Nat)) (seen : List Nat) : (leftOf (l.map (entV f g)).toArray seen.toArray).toList = (leftL l seen).map (entV f g) := by
  unfold leftOf leftL
  rw [Array.toList_filter]
  simp only [List.contains_toArray]
  induction l with
  | nil => rfl
  | cons e l ih =>
    simp only [List.map_cons, List.filter_cons]
    rw [show (entV f g e).born = e.2.2 from rfl, ih]
    split <;> rfl
theorem OJ_next {x : Operand} {it since c0 : Nat} {seen : List Nat} (n : Nat) (hk : μ[n]? = some (itR it r since seen c0)) (hx : oev σ x = some (.pointer (some ⟨it, 0, none⟩))) (hm : MapAt μ φ r (l.map (entV f g)).toArray c)
    (hold : ∀ e ∈ l, e.2.2 < since) (hsc : since ≤ c0) :
    OJ E (.next x false) ty σ μ φ (fun v μ' φ' => (leftL l seen = [] ∧ v = .tuple #[.bool false] ∧ μ' = μ ∧ φ' = φ) ∨
      ∃ e ∈ leftL l seen, v = .tuple #[.bool true, f e.1, g e.2.1] ∧ μ' = μ.set n (itR it r since (seen ++ [e.2.2]) c) ∧ φ' = φ) := fun a w d pos af gd K Q hs hm0 hK => by
  have h1 : OKm E (objR it (.mapIter (some r) since seen.toArray c0) :: μ.eraseIdx n) φ w := hm0.weak (μr := []) (by rw [List.append_nil]; exact perm_at hk) (fun _ h => h)
  have hb := hm w hm0.hold.1 hm0.hold.2
  have hh : ∀ e' ∈ (l.map (entV f g)).toArray.toList, e'.born < since := by
    intro e' he'
    simp only [List.mem_map] at he'
    obtain ⟨e, he, rfl⟩ := he'
    exact hold e he
  rcases run_next_at (P := E.P) w ty it r since c0 seen.toArray _ c h1.objAt hb hh hsc with ⟨h0, hr⟩ | ⟨e', he', w1, hw1, hr⟩
  · have : (execOp a.eval ⟨d, .next x false, ty, pos, af, gd⟩).run E.P w = .ok (.value (.tuple #[.bool false])) w := by
      simp only [execOp, hs.ev hx]
      simp [hr]
    unfold Oper.wp
    rw [this, Oper.upon_value]
    refine hK _ _ _ _ (.inl ⟨?_, rfl, rfl, rfl⟩) hm0
    have e0 : (leftOf (l.map (entV f g)).toArray seen.toArray).toList.length = 0 := by simpa using h0
    rw [left_map] at e0
    simpa using e0
  · rw [left_map] at he'
    obtain ⟨e, he, rfl⟩ := List.mem_map.1 he'
    have : (execOp a.eval ⟨d, .next x false, ty, pos, af, gd⟩).run E.P w = .ok (.value (.tuple #[.bool true, f e.1, g e.2.1])) (w1.putObj it (.mapIter (some r) since (seen ++ [e.2.2]).toArray c)) := by
      simp only [execOp, hs.ev hx]
      simp [hr, entV, ChangeMaps.setBlock, World.putObj]
    unfold Oper.wp
    rw [this, Oper.upon_value]
    have h2 : OKm E (objR it (.mapIter (some r) since seen.toArray c0) :: μ.eraseIdx n) φ w1 := by
      rcases hw1 with rfl | rfl
      · exact h1
      · exact h1.drew
    exact hK _ _ _ _ (.inr ⟨e, he, rfl, rfl, rfl⟩) ((h2.putObj _).weak (μr := []) (by rw [List.append_nil]; exact perm_set _ hk) (fun _ h => h))
theorem YJ_entry {x : Operand} {it since : Nat} {seen : List Nat} {e : κ × ν × Nat} (hx : oev σ x = some (.pointer (some ⟨it, 0, none⟩))) (hit : itR it r since (seen ++ [e.2.2]) c ∈ μ) (hm : MapAt μ φ r (l.map (entV f g)).toArray c) (he : e ∈ l) (hn : (l.map (·.2.2)).Nodup) :
    YJ E (.entry x) ty σ μ φ (.tuple #[f e.1, g e.2.1]) := fun a w d pos af gd hs h1 h2 => by
  obtain ⟨S, h, _⟩ := h1 _ hit
  have hb := hm w h1 h2
  have h' : w.heap[it]? = some (.mapIter (some r) since (seen.toArray.push (entV f g e).born) c) := by
    rw [h]
    simp [entV]
  have := run_entry_at (P := E.P) w it r since seen.toArray _ c (entV f g e) h' hb (by simpa using ⟨e.1, e.2.1, e.2.2, he, rfl⟩) (by
    have e1 : (l.map (entV f g)).toArray.toList.map (·.born) = l.map (·.2.2) := by simp [entV, Function.comp_def]
    rw [e1]; exact hn)
  simp only [execOp, hs.ev hx]
  simp [this, entV]
variable {Q : Qt} {ops : Array Oper} {rest : List Oper} {d : Tmp} {pos : String} {af : Array Edge} {gd : Option (Nat × Bool)} {ml pl : List Res} {fuel : Nat} {listed : Array Bool} {M : List (Res × List Nat)}
theorem LJ_makeMap {t : TypeId} (hg : grd ops σ gd = some true) (hd : Nat.blt d E.N = true) (h : ∀ b, LJ E Q ops rest ((d, .map (some b)) :: σ) (objR b (.map #[] 0) :: μ) φ) : LJ E Q ops (⟨some d, .makeMap t none, ty, pos, af, gd⟩ :: rest) σ μ φ :=
  LJ_o hg hd OJ_makeMap (by rintro _ _ _ ⟨b, rfl, rfl, rfl⟩; exact h b)
theorem LJ_mapUpdate {t kt et : TypeId} {x y z : Operand} {k : κ} {v : ν} {l' : List (κ × ν × Nat)} {c' : Nat} (n : Nat) (hg : grd ops σ gd = some true) (hk : μ[n]? = some (mapR r f g l c)) (hx : oev σ x = some (.map (some r))) (hy : oev σ y = some (f k)) (hz : oev σ z = some (g v)) (hu : E.P.underlying t = some (.map kt et)) (hK : KeyT E.P kt f)
    (hl : mput k v l c = l') (hc : mclk k l c = c') (h : LJ E Q ops rest σ (μ.set n (mapR r f g l' c')) φ) : LJ E Q ops (⟨none, .mapUpdate t x y z, ty, pos, af, gd⟩ :: rest) σ μ φ :=
  LJ_o0 hg (OJ_mapUpdate n hk hx hy hz hu hK hl hc) (by rintro _ _ _ ⟨rfl, rfl⟩; exact h)
theorem AJ_mapUpdate {t kt et : TypeId} {x y z : Operand} {k : κ} {v : ν} {l' : List (κ × ν × Nat)} {c' : Nat} (i n : Nat) (hi : ops[i]? = some ⟨none, .mapUpdate t x y z, ty, pos, af, gd⟩) (hr : Region.ready .any ops listed = [i]) (hg : grd ops σ gd = some true) (hk : μ[n]? = some (mapR r f g l c)) (hx : oev σ x = some (.map (some r))) (hy : oev σ y = some (f k)) (hz : oev σ z = some (g v)) (hu : E.P.underlying t = some (.map kt et)) (hK : KeyT E.P kt f)
    (hl : mput k v l c = l') (hc : mclk k l c = c') (hml : ∀ q, q ∈ ml → q ∈ μ.set n (mapR r f g l' c')) (h : AJ E Q ops ml pl fuel (listed.setIfInBounds i true) σ (μ.set n (mapR r f g l' c')) φ) : AJ E Q ops ml pl (fuel + 1) listed σ μ φ :=
  AJ_o0 i hi hr hg (OJ_mapUpdate n hk hx hy hz hu hK hl hc) (by rintro _ _ _ ⟨rfl, rfl⟩; exact ⟨fun _ => hml, fun _ _ h => h, h⟩)
theorem LJ_delete {t kt et t2 : TypeId} {x y : Operand} {k : κ} {l' : List (κ × ν × Nat)} (n : Nat) (hg : grd ops σ gd = some true) (hk : μ[n]? = some (mapR r f g l c)) (hx : oev σ x = some (.map (some r))) (hy : oev σ y = some (f k)) (hu : E.P.underlying t = some (.map kt et)) (hK : KeyT E.P kt f)
    (hl : mdel k l = l') (h : LJ E Q ops rest σ (μ.set n (mapR r f g l' c)) φ) : LJ E Q ops (⟨none, .call { callee := .builtin .delete, args := #[x, y], argTypes := #[t, t2] }, ty, pos, af, gd⟩ :: rest) σ μ φ :=
  LJ_o0 hg (OJ_delete n hk hx hy hu hK hl) (by rintro _ _ _ ⟨_, rfl, rfl⟩; exact h)
theorem LJ_range {t kt et : TypeId} {x : Operand} (hg : grd ops σ gd = some true) (hd : Nat.blt d E.N = true) (hx : oev σ x = some (.map (some r))) (hu : E.P.underlying t = some (.map kt et)) (hm : MapAt μ φ r (l.map (entV f g)).toArray c)
    (h : ∀ b, LJ E Q ops rest ((d, .pointer (some ⟨b, 0, none⟩)) :: σ) (itR b r c [] c :: μ) φ) : LJ E Q ops (⟨some d, .range t x, ty, pos, af, gd⟩ :: rest) σ μ φ :=
  LJ_o hg hd (OJ_range hx hu hm) (by rintro _ _ _ ⟨b, rfl, rfl, rfl⟩; exact h b)
theorem LJ_next {x : Operand} {it since c0 : Nat} {seen : List Nat} (n : Nat) (hg : grd ops σ gd = some true) (hd : Nat.blt d E.N = true) (hk : μ[n]? = some (itR it r since seen c0)) (hx : oev σ x = some (.pointer (some ⟨it, 0, none⟩))) (hm : MapAt μ φ r (l.map (entV f g)).toArray c)
    (hold : ∀ e ∈ l, e.2.2 < since) (hsc : since ≤ c0) (h0 : leftL l seen = [] → LJ E Q ops rest ((d, .tuple #[.bool false]) :: σ) μ φ) (h1 : ∀ e, e ∈ leftL l seen → LJ E Q ops rest ((d, .tuple #[.bool true, f e.1, g e.2.1]) :: σ) (μ.set n (itR it r since (seen ++ [e.2.2]) c)) φ) : LJ E Q ops (⟨some d, .next x false, ty, pos, af, gd⟩ :: rest) σ μ φ :=
  LJ_o hg hd (OJ_next n hk hx hm hold hsc) (by rintro _ _ _ (⟨h, rfl, rfl, rfl⟩ | ⟨e, he, rfl, rfl, rfl⟩); exact h0 h; exact h1 e he)
theorem LJ_callP {ι : Type} {C : ι → Prop} {fv : ι → Value} {mf gf : ι → List Res} {x : Operand} {xs : Array Operand} {at_ : Array TypeId} {fn : FuncId} {cap : Array Value} {vs vs' : List Value} {μ1 μr φ1 : List Res} (hp : List.Perm μ (μ1 ++ μr)) (hg : grd ops σ gd = some true) (hd : Nat.blt d E.N = true) (hx : oev σ x = some (.func (.func fn) #[] cap)) (hxs : oevs σ xs.toList = some vs) (hv : vs ++ cap.toList = vs')
    (ht : Tri E.P fn vs' μ1 φ1 (RetX C fv mf gf)) (hφ : ∀ r, r ∈ φ1 → r ∈ φ) (h : ∀ x, C x → LJ E Q ops rest ((d, fv x) :: σ) (mf x ++ μr) (gf x ++ φ)) : LJ E Q ops (⟨some d, .call { callee := .value x, args := xs, argTypes := at_ }, ty, pos, af, gd⟩ :: rest) σ μ φ := by
  subst hv
  exact LJ_o hg hd (OJ_call hx hxs ht hp hφ) (by rintro _ _ _ ⟨_, _, ⟨x, hc, rfl, rfl, rfl⟩, rfl, rfl⟩; exact h x hc)
theorem AJ_callP {ι : Type} {C : ι → Prop} {fv : ι → Value} {mf gf : ι → List Res} {x : Operand} {xs : Array Operand} {at_ : Array TypeId} {fn : FuncId} {cap : Array Value} {vs vs' : List Value} {μ1 μr φ1 : List Res} (i : Nat) (hi : ops[i]? = some ⟨some d, .call { callee := .value x, args := xs, argTypes := at_ }, ty, pos, af, gd⟩) (hr : Region.ready .any ops listed = [i]) (hp : List.Perm μ (μ1 ++ μr)) (hg : grd ops σ gd = some true) (hd : Nat.blt d E.N = true) (hx : oev σ x = some (.func (.func fn) #[] cap)) (hxs : oevs σ xs.toList = some vs) (hv : vs ++ cap.toList = vs')
    (ht : Tri E.P fn vs' μ1 φ1 (RetX C fv mf gf)) (hφ : ∀ r, r ∈ φ1 → r ∈ φ) (hml : ∀ x q, q ∈ ml → q ∈ mf x ++ μr) (h : ∀ x, C x → AJ E Q ops ml pl fuel (listed.setIfInBounds i true) ((d, fv x) :: σ) (mf x ++ μr) (gf x ++ φ)) : AJ E Q ops ml pl (fuel + 1) listed σ μ φ := by
  subst hv
  exact AJ_o i hi hr hg hd (OJ_call hx hxs ht hp hφ) (by rintro _ _ _ ⟨_, _, ⟨x, hc, rfl, rfl, rfl⟩, rfl, rfl⟩; exact ⟨fun q hq _ => hml x q hq, fun _ _ h => List.mem_append_right _ h, h x hc⟩)
end
section
variable {E : Env} {Q : Qt} {ops : Array Oper} {ml pl : List Res} {A : List Al} {fuel : Nat} {L : Array Bool} {σ : List (Nat × Value)} {μ φ : List Res}
theorem AA_oN {ι : Type} {C : ι → Prop} {fv : ι → Value} {mf gf : ι → List Res} (i : Nat) {d : Tmp} {op : Op} {ty : TypeId} {pos : String} {af : Array Edge} {g : Option (Nat × Bool)} (hi : ops[i]? = some ⟨some d, op, ty, pos, af, g⟩)
    (hc : allBits A.length (fun bs => (Region.ready .any ops (lsB A bs L)).all (fun j => Nat.beq j i || (pendB A bs).contains j) && !(Region.ready .any ops (lsB A bs L)).isEmpty) = true)
    (hfr : Frs σ A = true)
    (hg : grd ops σ g = some true) (hd : Nat.blt d E.N = true) (hda : (dsts A).contains d = false) (ho : ∀ μ', OJ E op ty σ μ' φ (fun v μ'' φ' => ∃ x, C x ∧ v = fv x ∧ μ'' = mf x ++ μ' ∧ φ' = gf x ++ φ))
    (h : ∀ x, C x → AA E Q ops ml pl A fuel (L.setIfInBounds i true) ((d, fv x) :: σ) (mf x ++ μ) (gf x ++ φ)) : AA E Q ops ml pl A (fuel + 1) L σ μ φ := fun hok hnd hsz hsel hQ hml hpl => by
  have main : ∀ n st, pend st = n → st.length = A.length → ∀ a w, OKa E σ a → Slots (σA A st) a → OKm E (μA A st ++ μ) φ w → wpAnyH E.P .any ops Q (fun w => Hold w ml ∧ Hold w pl) (fuel + 1 + pend st) (lsB A (bts st) L) a w := by
    intro n
    induction n with
    | zero => ?_
    | succ n ih => ?_
    all_goals
      intro st hn hst a w ha hs hm
      have hcc := allBits_spec _ _ hc (bts st) (by simpa [bts] using hst)
      simp only [Bool.and_eq_true, Bool.not_eq_true', List.all_eq_true, Bool.or_eq_true] at hcc
      rw [show fuel + 1 + pend st = (fuel + pend st) + 1 by omega]
      refine wpAnyH_all rfl (fun e => by rw [e] at hcc; simp at hcc) fun j hj => ?_
      by_cases hji : j = i
      · subst hji
        unfold wpOp
        rw [hi]
        dsimp only
        rw [if_pos (grd_wanted (o := ⟨some d, op, ty, pos, af, g⟩) ha hg)]
        refine .inl (ho (μA A st ++ μ) a w _ _ _ _ _ _ ha.slots hm ?_)
        rintro v μ' φ' w' ⟨x, hC, rfl, rfl, rfl⟩ hm0
        have hm' : OKm E (μA A st ++ (mf x ++ μ)) (gf x ++ φ) w' := hm0.weak (μr := []) (by rw [List.append_nil, ← List.append_assoc, ← List.append_assoc]; exact List.perm_append_comm.append_right μ) (fun _ h => h)
        have hin : ∀ r, r ∈ ml → r ∈ μA A st ++ (mf x ++ μ) := fun r hr => List.mem_append_right _ (List.mem_append_right _ (hml r hr))
        have e2 : ∀ r, r ∈ pl → r ∈ gf x ++ φ := fun r hr => List.mem_append_right _ (hpl r hr)
        have hrec := h x hC hok hnd hsz hsel hQ (fun r hr => List.mem_append_right _ (hml r hr)) e2 st hst (a.put (some d) (fv x)) w' (ha.put hd (fv x)) (hs.putA hda (fv x)) hm'
        rw [lsB_set] at hrec
        exact ⟨⟨hm'.hold.1.sub hin, hm'.hold.2.sub e2⟩, hrec⟩
      · have hjp : j ∈ pendB A (bts st) := by
          rcases hcc.1 j hj with h' | h'
          · exact absurd (Nat.eq_of_beq_eq_true h') hji
          · exact List.contains_iff_mem.1 h'
        refine AA_alloc hok hnd hfr hsz hml hpl hst hjp ha hs hm ?_
        intro st' hst' hp' a' w' ha' hs' hm' _
        first
          | (exfalso; omega)
          | (have := ih st' (by omega) hst' a' w' ha' hs' hm'
             rw [show fuel + pend st = fuel + 1 + pend st' by omega]
             exact this)
  intro st hst a w ha hs hm
  exact main _ st rfl hst a w ha hs hm
theorem AA_callN {ι : Type} {C : ι → Prop} {fv : ι → Value} {rf : ι → Res} {gf : ι → List Res} {d : Tmp} {ty : TypeId} {pos : String} {af : Array Edge} {g : Option (Nat × Bool)} {x : Operand} {xs : Array Operand} {at_ : Array TypeId} {fn : FuncId} {cap : Array Value} {vs vs' : List Value} {φ1 : List Res} (i : Nat) (hi : ops[i]? = some ⟨some d, .call { callee := .value x, args := xs, argTypes := at_ }, ty, pos, af, g⟩)
    (hc : allBits A.length (fun bs => (Region.ready .any ops (lsB A bs L)).all (fun j => Nat.beq j i || (pendB A bs).contains j) && !(Region.ready .any ops (lsB A bs L)).isEmpty) = true)
    (hfr : Frs σ A = true) (hg : grd ops σ g = some true) (hd : Nat.blt d E.N = true) (hda : (dsts A).contains d = false)
    (hx : oev σ x = some (.func (.func fn) #[] cap)) (hxs : oevs σ xs.toList = some vs) (hv : vs ++ cap.toList = vs') (ht : Tri E.P fn vs' [] φ1 (RetL C fv rf gf)) (hφ : ∀ r, r ∈ φ1 → r ∈ φ)
    (h : ∀ x, C x → AA E Q ops ml pl A fuel (L.setIfInBounds i true) ((d, fv x) :: σ) (rf x :: μ) (gf x ++ φ)) : AA E Q ops ml pl A (fuel + 1) L σ μ φ := by
  subst hv
  refine AA_oN (C := C) (fv := fv) (mf := fun x => [rf x]) (gf := gf) i hi hc hfr hg hd hda (fun μ' => ?_) h
  exact OJ_conv (OJ_call (μr := μ') hx hxs ht (List.Perm.refl _) hφ) (fun v μ'' φ' h => by
    obtain ⟨_, _, ⟨x, hc, rfl, rfl, rfl⟩, rfl, rfl⟩ := h
    exact ⟨_, ⟨x, hc, rfl, rfl, rfl⟩, List.Perm.refl _⟩)
end
end Go.Proofs.Ytbanlhlggkdanaa
namespace Go.Proofs.Ytbanlhlggkdanaa
open Go.RowKit
section
variable {κ ν : Type} [DecidableEq κ]
def ment (k : κ) (z : ν) (l : List (κ × ν × Nat)) (c : Nat) : List (κ × ν × Nat) := match mfind k l 0 with
 | some _ => l
 | none => l ++ [(k, z, c)]
def mborn (k : κ) (l : List (κ × ν × Nat)) (c : Nat) : Nat := match mfind k l 0 with
 | some (i, _) => ((l[i]?).map (·.2.2)).getD 0
 | none => c
def mset (b : Nat) (v : ν) (l : List (κ × ν × Nat)) : List (κ × ν × Nat) := match l.findIdx? (fun e => e.2.2 == b) with
 | some i => l.modify i (fun e => (e.1, v, e.2.2))
 | none => l
theorem find_born : ∀ {l : List (κ × ν × Nat)} {j : Nat} {e : κ × ν × Nat}, (l.map (·.2.2)).Nodup → l[j]? = some e → l.findIdx? (fun x => x.2.2 == e.2.2) = some j
 | x :: l, 0, e, hn, h => by
  simp at h
  subst h
  simp [List.findIdx?_cons]
 | x :: l, j + 1, e, hn, h => by
  rw [List.map_cons, List.nodup_cons] at hn
  simp at h
  have hne : x.2.2 ≠ e.2.2 := fun q => hn.1 (List.mem_map.2 ⟨e, List.mem_of_getElem? h, q.symm⟩)
  rw [List.findIdx?_cons, show (x.2.2 == e.2.2) = false by simpa using hne]
  simp [find_born hn.2 h]
theorem entry_mput {k : κ} {z v : ν} {l : List (κ × ν × Nat)} {c : Nat} (hn : (l.map (·.2.2)).Nodup) (hc : ∀ e, e ∈ l → e.2.2 < c) :
  mset (mborn k l c) v (ment k z l c) = mput k v l c ∧ ((ment k z l c).findIdx? (fun e => e.2.2 == mborn k l c)).isSome = true := by
 unfold mset mborn ment mput
 cases hf : mfind k l 0 with
 | none =>
  dsimp only
  have hz : (l ++ [(k, z, c)]).findIdx? (fun e => e.2.2 == c) = some l.length := by
   have := find_born (l := l ++ [(k, z, c)]) (j := l.length) (e := (k, z, c)) (by
    rw [List.map_append, List.nodup_append]
    refine ⟨hn, by simp, ?_⟩
    intro a ha b hb q
    obtain ⟨e, he, rfl⟩ := List.mem_map.1 ha
    simp at hb
    subst hb
    have := hc e he
    omega) (by simp)
   exact this
  rw [hz]
  refine ⟨?_, rfl⟩
  dsimp only
  apply List.ext_getElem?
  intro j
  rw [List.getElem?_modify, List.getElem?_append, List.getElem?_append]
  by_cases h1 : j < l.length
  ·rw [if_pos h1, if_pos h1]
   have : ¬ l.length = j := by omega
   simp [this]
  ·rw [if_neg h1, if_neg h1]
   by_cases h2 : l.length = j
   ·subst h2; simp
   ·have : ([(k, z, c)] : List (κ × ν × Nat))[j - l.length]? = none := List.getElem?_eq_none (by simp; omega)
    have h3 : ([(k, v, c)] : List (κ × ν × Nat))[j - l.length]? = none := List.getElem?_eq_none (by simp; omega)
    rw [this, h3]; simp
 | some p =>
  obtain ⟨i, v0⟩ := p
  obtain ⟨_, e, he, hek, _⟩ := mfind_key hf
  simp only [Nat.sub_zero] at he
  dsimp only
  rw [he]
  dsimp only [Option.map_some, Option.getD_some]
  rw [find_born hn he]
  exact ⟨rfl, rfl⟩
theorem mget_ment {k : κ} {z : ν} {l : List (κ × ν × Nat)} {c : Nat} (h : mget k l = none) : ∀ g : ν → Value, ((mget k (ment k z l c)).map g).getD (g z) = ((mget k l).map g).getD (g z) := fun g => by
 have hf : mfind k l 0 = none := by
  unfold mget at h
  cases hf : mfind k l 0 with
  | none => rfl
  | some p => rw [hf] at h; cases h
 have key : ∀ (l : List (κ × ν × Nat)) (b : Nat), mfind k l b = none → mfind k (l ++ [(k, z, c)]) b = some (b + l.length, z) := by
  intro l
  induction l with
  | nil => intro b _; simp [mfind]
  | cons x l ih =>
   intro b hb
   unfold mfind at hb ⊢
   split at hb
   ·cases hb
   ·rename_i hx
    rw [List.cons_append]
    dsimp only
    rw [if_neg hx, ih _ hb]
    simp; omega
 have e1 : mget k (ment k z l c) = some z := by
  unfold ment
  rw [hf]
  dsimp only
  unfold mget
  rw [key l 0 hf]
  rfl
 rw [e1, h]
 rfl
end
section
variable {E : Env} {Q : Qt} {σ : List (Nat × Value)} {μ φ ml pl : List Res} {ops : Array Oper} {fuel : Nat} {listed : Array Bool} {ty : TypeId} {pos : String} {af : Array Edge} {gd : Option (Nat × Bool)} {d : Tmp}
variable {κ ν : Type} [DecidableEq κ] {f : κ → Value} {g : ν → Value} {l : List (κ × ν × Nat)} {c r : Nat}
theorem OJ_y {op : Op} {v : Value} (hy : YJ E op ty σ μ φ v) : OJ E op ty σ μ φ (fun v' μ' φ' => v' = v ∧ μ' = μ ∧ φ' = φ) := fun a w d pos af g K Q hs hm hK => by
 unfold Oper.wp
 rw [hy a w d pos af g hs hm.hold.1 hm.hold.2, Oper.upon_value]
 exact hK _ _ _ _ ⟨rfl, rfl, rfl⟩ hm
theorem OJ_mapEntry {t kt et : TypeId} {x y : Operand} {k : κ} {z : ν} (n : Nat) (hk : μ[n]? = some (mapR r f g l c)) (hx : oev σ x = some (.map (some r))) (hy : oev σ y = some (f k)) (hu : E.P.underlying t = some (.map kt et)) (hK : KeyT E.P kt f) (hz : zer E.P et = some (g z)) :
  OJ E (.mapEntry t x y) ty σ μ φ (fun v μ' φ' => v = .tuple #[((mget k l).map g).getD (g z), .int .i64 (mborn k l c : Nat)] ∧ μ' = μ.set n (mapR r f g (ment k z l c) (mclk k l c)) ∧ φ' = φ) := by
 refine OJ_conv (OJ_putObj (o' := .map ((ment k z l c).map (entV f g)).toArray (mclk k l c)) hk (nx := .value (.tuple #[((mget k l).map g).getD (g z), .int .i64 (mborn k l c : Nat)])) (v := .tuple #[((mget k l).map g).getD (g z), .int .i64 (mborn k l c : Nat)]) (.inr rfl) ?_) (fun u μ' φ' h => ⟨_, ⟨h.1 rfl, h.2.1, h.2.2⟩, List.Perm.refl _⟩)
 intro a w d pos af gd hs hm hb
 have h1 := hK.chk false k w
 have h2 := hK.find g k l w
 simp only [execOp, hs.ev hx, hs.ev hy]
 simp only [Instr.mapEntry, Sem.run_bind, run_underlying hu, Result.andThen_ok, MapKept.run_getObj_map hb, h1, h2]
 unfold ment mclk mborn mget
 cases hf : mfind k l 0 with
 | none =>
  simp only [Option.map_none, run_zeroValue' hz, Result.andThen_ok, Sem.run_bind, MapKept.run_setObj_map _ hb]
  simp [World.putObj, entV, goInt]
 | some p =>
  obtain ⟨i, v0⟩ := p
  obtain ⟨_, e, he, hek, _⟩ := mfind_key hf
  simp only [Nat.sub_zero] at he
  have hkey : ((((l.map (entV f g)).toArray)[i]?).map (·.key)).getD (f k) = f k := by
   simp [he, entV, hek]
  have hks : (Instr.keyThatStays (f k) (f k)).run E.P w = .ok (f k) w := by
   unfold Instr.keyThatStays
   simp [hK.same k]
  have hmod : (l.map (entV f g)).toArray.modify i (fun q => { q with key := f k }) = (l.map (entV f g)).toArray := by
   apply Array.toList_inj.1
   apply List.ext_getElem?
   intro j
   simp only [Array.toList_modify, List.getElem?_modify, List.getElem?_map]
   by_cases hj : i = j
   ·subst hj
    simp [he, entV, hek]
   ·simp [hj]
  simp only [Option.map_some, Sem.run_bind, hkey, hks, Result.andThen_ok, MapKept.run_setObj_map _ hb]
  simp only [World.putObj, hmod]
  simp [he, entV, goInt]
theorem OJ_entryStore {t : TypeId} {x y z : Operand} {b : Nat} {v : ν} {l' : List (κ × ν × Nat)} (n : Nat) (hk : μ[n]? = some (mapR r f g l c)) (hx : oev σ x = some (.map (some r))) (hy : oev σ y = some (.int .i64 (b : Nat))) (hz : oev σ z = some (g v))
  (hf : (l.findIdx? (fun e => e.2.2 == b)).isSome = true) (hl : mset b v l = l') : OJ E (.entryStore t x y z) ty σ μ φ (fun _ μ' φ' => μ' = μ.set n (mapR r f g l' c) ∧ φ' = φ) := by
 subst hl
 refine OJ_conv (OJ_putObj (o' := .map ((mset b v l).map (entV f g)).toArray c) hk (nx := .skip) (v := undef) (.inl rfl) ?_) (fun u μ' φ' h => ⟨_, ⟨h.2.1, h.2.2⟩, List.Perm.refl _⟩)
 intro a w d pos af gd hs hm hb
 obtain ⟨i, hi⟩ := Option.isSome_iff_exists.1 hf
 have hidx : (l.map (entV f g)).toArray.findIdx? (fun e => ((e.born : Nat) : Int) == ((b : Nat) : Int)) = some i := by
  rw [← hi]
  simp only [List.findIdx?_toArray, List.findIdx?_map]
  congr 1
  funext e
  show (((e.2.2 : Nat) : Int) == ((b : Nat) : Int)) = (e.2.2 == b)
  by_cases q : e.2.2 = b
  ·subst q; simp
  ·rw [beq_eq_false_iff_ne.2 q, beq_eq_false_iff_ne.2 (by omega)]
 have hmod : (l.map (entV f g)).toArray.modify i (fun q => { q with val := g v }) = ((l.modify i (fun e => (e.1, v, e.2.2))).map (entV f g)).toArray := by
  apply Array.toList_inj.1
  apply List.ext_getElem?
  intro j
  simp only [Array.toList_modify, List.getElem?_modify, List.getElem?_map]
  cases l[j]? with
  | none => simp
  | some e => by_cases hj : i = j <;> simp [hj, entV]
 simp only [execOp, hs.ev hx, hs.ev hy, hs.ev hz]
 unfold mset
 rw [hi]
 simp only [Instr.entryStore, Sem.run_bind, Sem.run_pure, Result.andThen_ok, MapKept.run_getObj_map hb, asInt, asIntOf, hidx, MapKept.run_setObj_map _ hb]
 simp only [World.putObj, hmod]
theorem AJ_mapEntry {t kt et : TypeId} {x y : Operand} {k : κ} {z : ν} (i n : Nat) (hi : ops[i]? = some ⟨some d, .mapEntry t x y, ty, pos, af, gd⟩) (hr : Region.ready .any ops listed = [i]) (hg : grd ops σ gd = some true) (hd : Nat.blt d E.N = true) (hk : μ[n]? = some (mapR r f g l c)) (hx : oev σ x = some (.map (some r))) (hy : oev σ y = some (f k)) (hu : E.P.underlying t = some (.map kt et)) (hK : KeyT E.P kt f) (hz : zer E.P et = some (g z))
  (hml : ∀ q, q ∈ ml → q ∈ μ.set n (mapR r f g (ment k z l c) (mclk k l c))) (h : AJ E Q ops ml pl fuel (listed.setIfInBounds i true) ((d, .tuple #[((mget k l).map g).getD (g z), .int .i64 (mborn k l c : Nat)]) :: σ) (μ.set n (mapR r f g (ment k z l c) (mclk k l c))) φ) : AJ E Q ops ml pl (fuel + 1) listed σ μ φ :=
 AJ_o i hi hr hg hd (OJ_mapEntry n hk hx hy hu hK hz) (by rintro _ _ _ ⟨rfl, rfl, rfl⟩; exact ⟨fun q hq _ => hml q hq, fun _ _ h => h, h⟩)
theorem AJ_entryStore {t : TypeId} {x y z : Operand} {b : Nat} {v : ν} {l' : List (κ × ν × Nat)} (i n : Nat) (hi : ops[i]? = some ⟨none, .entryStore t x y z, ty, pos, af, gd⟩) (hr : Region.ready .any ops listed = [i]) (hg : grd ops σ gd = some true) (hk : μ[n]? = some (mapR r f g l c)) (hx : oev σ x = some (.map (some r))) (hy : oev σ y = some (.int .i64 (b : Nat))) (hz : oev σ z = some (g v))
  (hf : (l.findIdx? (fun e => e.2.2 == b)).isSome = true) (hl : mset b v l = l') (hml : ∀ q, q ∈ ml → q ∈ μ.set n (mapR r f g l' c)) (h : AJ E Q ops ml pl fuel (listed.setIfInBounds i true) σ (μ.set n (mapR r f g l' c)) φ) : AJ E Q ops ml pl (fuel + 1) listed σ μ φ :=
 AJ_o0 i hi hr hg (OJ_entryStore n hk hx hy hz hf hl) (by rintro _ _ _ ⟨rfl, rfl⟩; exact ⟨fun _ => hml, fun _ _ h => h, h⟩)
theorem AJ_yo (i : Nat) {op : Op} {v : Value} (hi : ops[i]? = some ⟨some d, op, ty, pos, af, gd⟩) (hr : Region.ready .any ops listed = [i]) (hg : grd ops σ gd = some true) (hd : Nat.blt d E.N = true) (hy : YJ E op ty σ μ φ v)
  (h : AJ E Q ops ml pl fuel (listed.setIfInBounds i true) ((d, v) :: σ) μ φ) : AJ E Q ops ml pl (fuel + 1) listed σ μ φ :=
 AJ_o i hi hr hg hd (OJ_y hy) (by rintro _ _ _ ⟨rfl, rfl, rfl⟩; exact ⟨fun _ _ h => h, fun _ _ h => h, h⟩)
theorem AJ_two (i j : Nat) {d2 : Tmp} {op1 op2 : Op} {ty2 : TypeId} {pos2 : String} {af2 : Array Edge} {gd2 : Option (Nat × Bool)} {X1 X2 : Value → List Res → List Res → Prop}
  (hi : ops[i]? = some ⟨some d, op1, ty, pos, af, gd⟩) (hj : ops[j]? = some ⟨some d2, op2, ty2, pos2, af2, gd2⟩) (hr : Region.ready .any ops listed = [i, j]) (hg1 : grd ops σ gd = some true) (hg2 : grd ops σ gd2 = some true) (hd1 : Nat.blt d E.N = true) (hd2 : Nat.blt d2 E.N = true) (ho1 : OJ E op1 ty σ μ φ X1) (ho2 : OJ E op2 ty2 σ μ φ X2)
  (h1 : ∀ v μ' φ', X1 v μ' φ' → (∀ r, r ∈ ml → r ∈ μ → r ∈ μ') ∧ (∀ r, r ∈ pl → r ∈ φ → r ∈ φ') ∧ AJ E Q ops ml pl fuel (listed.setIfInBounds i true) ((d, v) :: σ) μ' φ')
  (h2 : ∀ v μ' φ', X2 v μ' φ' → (∀ r, r ∈ ml → r ∈ μ → r ∈ μ') ∧ (∀ r, r ∈ pl → r ∈ φ → r ∈ φ') ∧ AJ E Q ops ml pl fuel (listed.setIfInBounds j true) ((d2, v) :: σ) μ' φ') : AJ E Q ops ml pl (fuel + 1) listed σ μ φ := fun hs hQ hm hp a w ha hmem =>
 wpAnyH_all hr (by simp) fun q hq => by
  have hqq : q = i ∨ q = j := by simpa using hq
  unfold wpOp
  rcases hqq with rfl | rfl
  ·rw [hi]
   dsimp only
   rw [if_pos (grd_wanted (o := ⟨some d, op1, ty, pos, af, gd⟩) ha hg1)]
   refine .inl (ho1 a w _ _ _ _ _ _ ha.slots hmem fun v μ' φ' w' hx hm' => ?_)
   obtain ⟨k1, k2, k3⟩ := h1 v μ' φ' hx
   have e1 : ∀ r, r ∈ ml → r ∈ μ' := fun r hr => k1 r hr (hm r hr)
   have e2 : ∀ r, r ∈ pl → r ∈ φ' := fun r hr => k2 r hr (hp r hr)
   exact ⟨⟨hm'.hold.1.sub e1, hm'.hold.2.sub e2⟩, k3 hs hQ e1 e2 _ _ (ha.put hd1 v) hm'⟩
  ·rw [hj]
   dsimp only
   rw [if_pos (grd_wanted (o := ⟨some d2, op2, ty2, pos2, af2, gd2⟩) ha hg2)]
   refine .inl (ho2 a w _ _ _ _ _ _ ha.slots hmem fun v μ' φ' w' hx hm' => ?_)
   obtain ⟨k1, k2, k3⟩ := h2 v μ' φ' hx
   have e1 : ∀ r, r ∈ ml → r ∈ μ' := fun r hr => k1 r hr (hm r hr)
   have e2 : ∀ r, r ∈ pl → r ∈ φ' := fun r hr => k2 r hr (hp r hr)
   exact ⟨⟨hm'.hold.1.sub e1, hm'.hold.2.sub e2⟩, k3 hs hQ e1 e2 _ _ (ha.put hd2 v) hm'⟩
end
end Go.Proofs.Ytbanlhlggkdanaa
namespace Go.Proofs.Ytbanlhlggkdanaa
open Go.RowKit
section
variable {E : Env} {ty : TypeId} {σ : List (Nat × Value)} {μ φ : List Res}
theorem YJ_sliceArr {xt e : TypeId} {x : Operand} {ad : Addr} {n size : Nat} (hx : oev σ x = some (.pointer (some ad))) (he : arrt E.P xt = some (n, e, size)) :
  YJ E (.slice xt x none none none) ty σ μ φ (.slice (some ad) n n) := fun ac w _ _ _ _ hs _ _ => by
 unfold arrt at he
 cases hu : E.P.underlying xt with
 | none => rw [hu] at he; simp at he
 | some d =>
  rw [hu] at he
  cases d <;> simp at he
  rename_i n' e'
  obtain ⟨i', hi, rfl, rfl, rfl⟩ := he
  simp only [execOp, Option.map_none, hs.ev hx]
  simp [Instr.sliceAt, run_underlying hu, sizeOf, typeInfo, hi, Instr.sureAddr, Instr.sliceBounds, Addr.add]
theorem cellsR_head {b n : Nat} {cs : Array Value} {t : TypeId} {xs : List Value} (hn : xs.length = n) (h0 : 0 < n) (hx : cs.toList.take n = xs) (w : World) (S : Nat → Prop) (h : (cellsR b cs t).p w S) : ∃ S', (sliceR 1 (some ⟨b, 0, none⟩) n xs).p w S' ∧ ∀ k, S' k → S k := by
 obtain ⟨hb, hS⟩ := h
 refine ⟨S, ⟨by simpa using hn, ?_⟩, fun k hk => hk⟩
 rw [if_neg (by omega)]
 refine ⟨_, rfl, hS, fun j v hj => ?_⟩
 rw [Addr.add_lit, cell_of_row w b (0 + j) cs t (0, 0) hb]
 rw [← hx, List.getElem?_take] at hj
 split at hj
 ·simpa using hj
 ·cases hj
theorem Tri_of_callsF {P : Program} {f : FuncId} {args : List Value} {v : Value} (hE : Enter P f = true) (h : ∀ w T, Fac w φ T → Calls P f args.toArray w fun e w' => e = .returned v ∧ w' = w) : Tri P f args [] φ (Ret0 v) :=
 ⟨hE, fun w S T hS hF hd hlt => (h w T hF).mono fun _ _ ⟨he, hw⟩ => by
  subst hw
  exact ⟨v, [], [], he, ⟨rfl, rfl, rfl⟩, Keeps.refl _ _, S, T, hS, (fun r hr => nomatch hr), hd, fun k hk => Or.inl hk, fun k hk => Or.inl hk, hlt⟩⟩
end
end Go.Proofs.Ytbanlhlggkdanaa
namespace Go.Proofs.Ytbanlhlggkdanaa
open Go.RowKit
section
variable {E : Env} {Q : Qt} {σ : List (Nat × Value)} {μ φ ml pl : List Res} {ops : Array Oper} {rest : List Oper} {fuel : Nat} {listed : Array Bool} {ty : TypeId} {pos : String} {af : Array Edge} {gd : Option (Nat × Bool)} {d : Tmp}
end
end Go.Proofs.Ytbanlhlggkdanaa
namespace Go.Proofs.Ytbanlhlggkdanaa
open Go.RowKit
section
variable {E : Env} {Q : Qt} {σ : List (Nat × Value)} {μ φ : List Res} {cd : Code}
open Classical in
def bigR (l : List Res) : Res where
 p w S := Sep w l S
 loc := fun h hk => h.keep hk
 lt := fun h hk => h.lt hk
theorem OKm.openBig {l : List Res} {w : World} (h : OKm E (bigR l :: μ) φ w) : OKm E (l ++ μ) φ w := by
 obtain ⟨S, T, ⟨S1, S2, h1, h2, h3, h4⟩, r⟩ := h.mem
 have e : S = fun k => S1 k ∨ S2 k := funext fun k => propext (h4 k)
 refine ⟨h.keeps, S, T, ?_, r⟩
 rw [e]
 exact Sep.app h1 h2 h3
theorem OKm.closeBig {l : List Res} {w : World} (h : OKm E (l ++ μ) φ w) : OKm E (bigR l :: μ) φ w := by
 obtain ⟨S, T, h1, r⟩ := h.mem
 obtain ⟨S1, S2, g1, g2, gd, gs⟩ := h1.split
 exact ⟨h.keeps, S, T, ⟨S1, S2, g1, g2, gd, gs⟩, r⟩
end
end Go.Proofs.Ytbanlhlggkdanaa
namespace Go.Proofs.Ytbanlhlggkdanaa
open Go.RowKit
theorem ent_60 : Enter Try.prog 60 = true := by kernel_rfl
theorem vl_get {t : Tr} {k : Nat} (hk : k < 3) : lget ([.int .i64 t.v0, .int .i64 t.v1, .int .i64 t.v2] : List Value) (((k : Nat) : Int).toNat * 1) = some (.int .i64 (t.v k)) := by
 match k, hk with
 | 0, _ => rfl
 | 1, _ => rfl
 | 2, _ => rfl
def Tr.fl (t : Tr) (i : Nat) : Bool := if i = 0 then t.f0 else if i = 1 then t.f1 else t.f2
theorem na_get {t : Tr} {k : Nat} (hk : k < 3) : (#[.int .i64 t.v0, .int .i64 t.v1, .int .i64 t.v2, .int .i64 t.n0, .int .i64 t.n1, .int .i64 t.n2, .bool t.f0, .bool t.f1, .bool t.f2] : Array Value)[0 + 3 + ((k : Nat) : Int).toNat * 1]? = some (.int .i64 (t.n k)) := by
 match k, hk with
 | 0, _ => rfl
 | 1, _ => rfl
 | 2, _ => rfl
theorem fa_get {t : Tr} {k : Nat} (hk : k < 3) : (#[.int .i64 t.v0, .int .i64 t.v1, .int .i64 t.v2, .int .i64 t.n0, .int .i64 t.n1, .int .i64 t.n2, .bool t.f0, .bool t.f1, .bool t.f2] : Array Value)[0 + 6 + ((k : Nat) : Int).toNat * 1]? = some (.bool (t.fl k)) := by
 match k, hk with
 | 0, _ => rfl
 | 1, _ => rfl
 | 2, _ => rfl
def cntv (t : Tr) (x : Int) : Nat → Int
 | 0 => 0
 | k + 1 => cntv t x k + if t.v k = x then 1 else 0
theorem cntv_b (t : Tr) (x : Int) : ∀ k : Nat, 0 ≤ cntv t x k ∧ cntv t x k ≤ k
 | 0 => ⟨Int.le_refl _, Int.le_refl _⟩
 | k + 1 => by
  have := cntv_b t x k
  unfold cntv
  split <;> omega
def madeB (pts : List (Int × Int)) (t : Tr) : Bool :=
 if 0 < cntv t (-2) 3 then decide (cntv t (-2) 3 = 3) else if 0 < cntv t (-1) 3 then decide (cntv t (-1) 3 = 1)
 else decide (0 < A2 (ptAt pts t.v0).1 (ptAt pts t.v0).2 (ptAt pts t.v1).1 (ptAt pts t.v1).2 (ptAt pts t.v2).1 (ptAt pts t.v2).2)
def vOk (n : Nat) (t : Tr) : Prop := ∀ k, k < 3 → t.v k = -1 ∨ t.v k = -2 ∨ (0 ≤ t.v k ∧ t.v k < n)
theorem vOk_real {n : Nat} {t : Tr} (h : vOk n t) (h2 : ¬ 0 < cntv t (-2) 3) (h1 : ¬ 0 < cntv t (-1) 3) : t.ok n := by
 have k0 := h 0 (by decide)
 have k1 := h 1 (by decide)
 have k2 := h 2 (by decide)
 simp only [cntv] at h1 h2
 have e0 : t.v 0 = t.v0 := rfl
 have e1 : t.v 1 = t.v1 := rfl
 have e2 : t.v 2 = t.v2 := rfl
 rw [e0, e1, e2] at h1 h2
 rw [e0] at k0; rw [e1] at k1; rw [e2] at k2
 unfold Tr.ok
 refine ⟨?_, ?_, ?_⟩
 all_goals (repeat' split at h1) <;> (repeat' split at h2) <;> omega
set_option maxRecDepth 100000 in
set_option maxHeartbeats 4000000 in
theorem made_c {B : Nat} {h : Mh} {pts : List (Int × Int)} {tris : List Tr} {t : Tr} (hP : ∀ j, j < pts.length → P2 (pts.getD j (0, 0)).1 (pts.getD j (0, 0)).2) (hv : vOk pts.length t) : Tri Try.prog 60 [.pointer (some ⟨B, 0, none⟩), .agg t.cells.toArray] [] (meshFs B h pts tris) (Ret0 (.bool (madeB pts t))) := by
 refine Tri_of (N := 63) Try.func60 rfl ent_60 rfl rfl ?_
 intro w0 S0 T0
 show CJ _ _ _ [(0, _), (1, _)] _ _
 refine CJ_seq ?_
 refine CJ_reg ?_
 refine LJ_box (cs := #[_, _, _, _, _, _, _, _, _]) rfl rfl rfl rfl ?_
 intro b1
 refine LJ_y rfl rfl (YJ_assign rfl) ?_
 refine LJ_nil ?_
 refine QJ_then ?_
 refine CJ_seq ?_
 refine CJ_reg ?_
 refine LJ_y rfl rfl (YJ_assign rfl) ?_
 refine LJ_y rfl rfl (YJ_assign rfl) ?_
 refine LJ_nil ?_
 refine QJ_then ?_
 refine CJ_seq ?_
 refine CJ_seq ?_
 refine CJ_reg ?_
 refine LJ_y rfl rfl (YJ_fieldOwn rfl fld_37_0 rfl) ?_
 refine LJ_y rfl rfl (YJ_loadN (vs := [_, _, _]) rfl tyi_34 m0 rfl rfl) ?_
 refine LJ_y rfl rfl (YJ_move rfl) ?_
 refine LJ_nil ?_
 refine QJ_then ?_
 refine CJ_block ?_
 refine CJ_loopF (F := fun (i : Nat × Int × Int) => ⟨[(0, .pointer (some ⟨B, 0, none⟩)), (3, .pointer (some ⟨b1, 0, none⟩)), (5, .int .i64 i.2.1), (6, .int .i64 i.2.2), (10, .agg #[.int .i64 t.v0, .int .i64 t.v1, .int .i64 t.v2]), (11, .int .i64 (i.1 : Nat))], [cellsR b1 #[.int .i64 t.v0, .int .i64 t.v1, .int .i64 t.v2, .int .i64 t.n0, .int .i64 t.n1, .int .i64 t.n2, .bool t.f0, .bool t.f1, .bool t.f2] 37], []⟩) (I := fun (i : Nat × Int × Int) => i.1 ≤ 3 ∧ i.2.1 = cntv t (-1) i.1 ∧ i.2.2 = cntv t (-2) i.1) (m := fun (i : Nat × Int × Int) => 3 - i.1) (0, 0, 0) (μr := []) ⟨Nat.zero_le _, rfl, rfl⟩ (And.intro rfl (And.intro rfl (And.intro rfl (And.intro rfl (And.intro rfl (And.intro rfl (trivial))))))) (permI [] rfl) (fun _ h => nomatch h) ?_
 rintro ⟨k, gh, go⟩ ⟨hk, hgh, hgo⟩
 try dsimp only at hk
 try dsimp only at hgh
 try dsimp only at hgo
 show CJ _ _ _ [(0, .pointer (some ⟨B, 0, none⟩)), (3, .pointer (some ⟨b1, 0, none⟩)), (5, .int .i64 gh), (6, .int .i64 go), (10, .agg #[.int .i64 t.v0, .int .i64 t.v1, .int .i64 t.v2]), (11, .int .i64 (k : Nat))] (cellsR b1 #[.int .i64 t.v0, .int .i64 t.v1, .int .i64 t.v2, .int .i64 t.n0, .int .i64 t.n1, .int .i64 t.n2, .bool t.f0, .bool t.f1, .bool t.f2] 37 :: _) _
 refine CJ_seq ?_
 refine CJ_reg ?_
 refine LJ_y rfl rfl (YJ_bin rfl rfl rfl) ?_
 refine LJ_nil ?_
 refine QJ_then ?_
 refine CJ_seq ?_
 refine CJ_cond rfl (fun h12 => ?_) (fun h12 => ?_)
 ·simp only [decide_eq_true_eq] at h12
  have hk3 : k < 3 := by omega
  have hb1 := cntv_b t (-1) k
  have hb2 := cntv_b t (-2) k
  refine CJ_skip ?_
  refine QJ_then ?_
  refine CJ_seq ?_
  refine CJ_block ?_
  refine CJ_seq ?_
  refine CJ_reg ?_
  refine LJ_y rfl rfl (YJ_index1 rfl rfl arrt_34 tyi_3 (by omega) (by omega) (vl_get hk3)) ?_
  refine LJ_y rfl rfl (YJ_assign rfl) ?_
  refine LJ_nil ?_
  refine QJ_then ?_
  refine CJ_seq ?_
  refine CJ_reg ?_
  refine LJ_y rfl rfl (YJ_move rfl) ?_
  refine LJ_nil ?_
  refine QJ_then ?_
  refine CJ_block ?_
  refine CJ_seq ?_
  refine CJ_reg ?_
  refine LJ_y rfl rfl (YJ_bin rfl rfl rfl) ?_
  refine LJ_y rfl rfl (YJ_assign rfl) ?_
  refine LJ_nil ?_
  refine QJ_then ?_
  refine CJ_cond rfl (fun h15 => ?_) (fun h15 => ?_)
  ·simp only [decide_eq_true_eq] at h15
   refine CJ_reg ?_
   refine LJ_y rfl rfl (YJ_move rfl) ?_
   refine LJ_y rfl rfl (YJ_bin rfl rfl (iop_add (by omega))) ?_
   refine LJ_y rfl rfl (YJ_assign rfl) ?_
   refine LJ_nil ?_
   refine QJ_in_normal ?_
   refine QJ_in_normal ?_
   refine QJ_then ?_
   refine CJ_reg ?_
   refine LJ_y rfl rfl (YJ_bin rfl rfl (iop_add (by omega))) ?_
   refine LJ_y rfl rfl (YJ_move rfl) ?_
   refine LJ_nil ?_
   refine QJ_roundF (F := fun (i : Nat × Int × Int) => ⟨[(0, .pointer (some ⟨B, 0, none⟩)), (3, .pointer (some ⟨b1, 0, none⟩)), (5, .int .i64 i.2.1), (6, .int .i64 i.2.2), (10, .agg #[.int .i64 t.v0, .int .i64 t.v1, .int .i64 t.v2]), (11, .int .i64 (i.1 : Nat))], [cellsR b1 #[.int .i64 t.v0, .int .i64 t.v1, .int .i64 t.v2, .int .i64 t.n0, .int .i64 t.n1, .int .i64 t.n2, .bool t.f0, .bool t.f1, .bool t.f2] 37], []⟩) (I := fun (i : Nat × Int × Int) => i.1 ≤ 3 ∧ i.2.1 = cntv t (-1) i.1 ∧ i.2.2 = cntv t (-2) i.1) (m := fun (i : Nat × Int × Int) => 3 - i.1) (i := (k, gh, go)) ((k + 1, gh + 1, go)) (μd := []) ⟨by omega, by dsimp only; unfold cntv; rw [if_pos h15, hgh], by dsimp only; unfold cntv; rw [if_neg (by omega), hgo, Int.add_zero]⟩ (by dsimp only; omega) (And.intro rfl (And.intro rfl (And.intro rfl (And.intro rfl (And.intro rfl (And.intro rfl (trivial))))))) (permI [] rfl) (fun _ h => nomatch h) (fun _ h => h)
  ·simp only [decide_eq_false_iff_not] at h15
   refine CJ_seq ?_
   refine CJ_reg ?_
   refine LJ_y rfl rfl (YJ_bin rfl rfl rfl) ?_
   refine LJ_y rfl rfl (YJ_assign rfl) ?_
   refine LJ_nil ?_
   refine QJ_then ?_
   refine CJ_cond rfl (fun h19 => ?_) (fun h19 => ?_)
   ·simp only [decide_eq_true_eq] at h19
    refine CJ_reg ?_
    refine LJ_y rfl rfl (YJ_move rfl) ?_
    refine LJ_y rfl rfl (YJ_bin rfl rfl (iop_add (by omega))) ?_
    refine LJ_y rfl rfl (YJ_assign rfl) ?_
    refine LJ_nil ?_
    refine QJ_in_normal ?_
    refine QJ_in_normal ?_
    refine QJ_then ?_
    refine CJ_reg ?_
    refine LJ_y rfl rfl (YJ_bin rfl rfl (iop_add (by omega))) ?_
    refine LJ_y rfl rfl (YJ_move rfl) ?_
    refine LJ_nil ?_
    refine QJ_roundF (F := fun (i : Nat × Int × Int) => ⟨[(0, .pointer (some ⟨B, 0, none⟩)), (3, .pointer (some ⟨b1, 0, none⟩)), (5, .int .i64 i.2.1), (6, .int .i64 i.2.2), (10, .agg #[.int .i64 t.v0, .int .i64 t.v1, .int .i64 t.v2]), (11, .int .i64 (i.1 : Nat))], [cellsR b1 #[.int .i64 t.v0, .int .i64 t.v1, .int .i64 t.v2, .int .i64 t.n0, .int .i64 t.n1, .int .i64 t.n2, .bool t.f0, .bool t.f1, .bool t.f2] 37], []⟩) (I := fun (i : Nat × Int × Int) => i.1 ≤ 3 ∧ i.2.1 = cntv t (-1) i.1 ∧ i.2.2 = cntv t (-2) i.1) (m := fun (i : Nat × Int × Int) => 3 - i.1) (i := (k, gh, go)) ((k + 1, gh, go + 1)) (μd := []) ⟨by omega, by dsimp only; unfold cntv; rw [if_neg h15, hgh, Int.add_zero], by dsimp only; unfold cntv; rw [if_pos h19, hgo]⟩ (by dsimp only; omega) (And.intro rfl (And.intro rfl (And.intro rfl (And.intro rfl (And.intro rfl (And.intro rfl (trivial))))))) (permI [] rfl) (fun _ h => nomatch h) (fun _ h => h)
   ·simp only [decide_eq_false_iff_not] at h19
    refine CJ_skip ?_
    refine QJ_in_normal ?_
    refine QJ_in_normal ?_
    refine QJ_then ?_
    refine CJ_reg ?_
    refine LJ_y rfl rfl (YJ_bin rfl rfl (iop_add (by omega))) ?_
    refine LJ_y rfl rfl (YJ_move rfl) ?_
    refine LJ_nil ?_
    refine QJ_roundF (F := fun (i : Nat × Int × Int) => ⟨[(0, .pointer (some ⟨B, 0, none⟩)), (3, .pointer (some ⟨b1, 0, none⟩)), (5, .int .i64 i.2.1), (6, .int .i64 i.2.2), (10, .agg #[.int .i64 t.v0, .int .i64 t.v1, .int .i64 t.v2]), (11, .int .i64 (i.1 : Nat))], [cellsR b1 #[.int .i64 t.v0, .int .i64 t.v1, .int .i64 t.v2, .int .i64 t.n0, .int .i64 t.n1, .int .i64 t.n2, .bool t.f0, .bool t.f1, .bool t.f2] 37], []⟩) (I := fun (i : Nat × Int × Int) => i.1 ≤ 3 ∧ i.2.1 = cntv t (-1) i.1 ∧ i.2.2 = cntv t (-2) i.1) (m := fun (i : Nat × Int × Int) => 3 - i.1) (i := (k, gh, go)) ((k + 1, gh, go)) (μd := []) ⟨by omega, by dsimp only; unfold cntv; rw [if_neg h15, hgh, Int.add_zero], by dsimp only; unfold cntv; rw [if_neg h19, hgo, Int.add_zero]⟩ (by dsimp only; omega) (And.intro rfl (And.intro rfl (And.intro rfl (And.intro rfl (And.intro rfl (And.intro rfl (trivial))))))) (permI [] rfl) (fun _ h => nomatch h) (fun _ h => h)
 ·simp only [decide_eq_false_iff_not] at h12
  have hk3 : 3 = k := by omega
  subst hk3
  subst hgh
  subst hgo
  refine CJ_exit ?_
  refine QJ_then_exit ?_
  refine QJ_then_exit ?_
  refine QJ_in_exit ?_
  refine QJ_then ?_
  refine CJ_seq ?_
  refine CJ_block ?_
  refine CJ_seq ?_
  refine CJ_reg ?_
  refine LJ_y rfl rfl (YJ_move rfl) ?_
  refine LJ_y rfl rfl (YJ_bin rfl rfl rfl) ?_
  refine LJ_y rfl rfl (YJ_assign rfl) ?_
  refine LJ_nil ?_
  refine QJ_then ?_
  refine CJ_cond rfl (fun h24 => ?_) (fun h24 => ?_)
  ·simp only [decide_eq_true_eq] at h24
   refine CJ_seq ?_
   refine CJ_reg ?_
   refine LJ_y rfl rfl (YJ_move rfl) ?_
   refine LJ_y rfl rfl (YJ_bin rfl rfl rfl) ?_
   refine LJ_y rfl rfl (YJ_assign rfl) ?_
   refine LJ_nil ?_
   refine QJ_then ?_
   refine CJ_ret ?_
   refine QJ_in_ret ?_
   refine QJ_then_ret ?_
   refine QJ_fin (.inl rfl) (μ' := []) (μr := _) (φ' := []) (res_tmp rfl rfl) (List.Perm.refl _) (fun _ h => nomatch h) ?_
   exact ⟨congrArg Value.bool (by unfold madeB; rw [if_pos h24]), rfl, rfl⟩
  ·simp only [decide_eq_false_iff_not] at h24
   refine CJ_seq ?_
   refine CJ_reg ?_
   refine LJ_y rfl rfl (YJ_move rfl) ?_
   refine LJ_y rfl rfl (YJ_bin rfl rfl rfl) ?_
   refine LJ_y rfl rfl (YJ_assign rfl) ?_
   refine LJ_nil ?_
   refine QJ_then ?_
   refine CJ_cond rfl (fun h29 => ?_) (fun h29 => ?_)
   ·simp only [decide_eq_true_eq] at h29
    refine CJ_seq ?_
    refine CJ_reg ?_
    refine LJ_y rfl rfl (YJ_move rfl) ?_
    refine LJ_y rfl rfl (YJ_bin rfl rfl rfl) ?_
    refine LJ_y rfl rfl (YJ_assign rfl) ?_
    refine LJ_nil ?_
    refine QJ_then ?_
    refine CJ_ret ?_
    refine QJ_in_ret ?_
    refine QJ_then_ret ?_
    refine QJ_fin (.inl rfl) (μ' := []) (μr := _) (φ' := []) (res_tmp rfl rfl) (List.Perm.refl _) (fun _ h => nomatch h) ?_
    exact ⟨congrArg Value.bool (by unfold madeB; rw [if_neg h24, if_pos h29]), rfl, rfl⟩
   ·simp only [decide_eq_false_iff_not] at h29
    obtain ⟨⟨hv0, hw0⟩, ⟨hv1, hw1⟩, ⟨hv2, hw2⟩⟩ := vOk_real hv h24 h29
    refine CJ_skip ?_
    refine QJ_in_normal ?_
    refine QJ_then ?_
    refine CJ_seq ?_
    refine CJ_regD mix (by kernel_rfl) (fun _ _ _ _ _ h => h) _ _ (fun _ h => h) (fun _ h => h) ?_
    refine AJ_y 0 rfl (by kernel_rfl) (by kernel_rfl) rfl rfl (YJ_move rfl) ?_
    refine AJ_y 1 rfl (by kernel_rfl) (by kernel_rfl) rfl rfl (YJ_nilCheck rfl) ?_
    refine AJ_y 2 rfl (by kernel_rfl) (by kernel_rfl) rfl rfl (YJ_fieldOwn rfl fld_57_0 rfl) ?_
    refine AJ_y 3 rfl (by kernel_rfl) (by kernel_rfl) rfl rfl (YJ_loadFactP (A := some ⟨B, 0, none⟩) (j := 0) rfl rfl tyi_26 m0 rfl) ?_
    refine AJ_y 4 rfl (by kernel_rfl) (by kernel_rfl) rfl rfl (YJ_fieldOwn rfl fld_37_0 rfl) ?_
    refine AJ_y 5 rfl (by kernel_rfl) (by kernel_rfl) rfl rfl (YJ_ixArr rfl rfl arrt_34 (by omega) (by omega) rfl) ?_
    refine AJ_y 6 rfl (by kernel_rfl) (by kernel_rfl) rfl rfl (YJ_loadL rfl tyi_3 m0 rfl) ?_
    refine AJ_y 7 rfl (by kernel_rfl) (by kernel_rfl) rfl rfl (YJ_ixFact rfl rfl elt_26 m1 (by decide) (by omega) (by omega) (by omega)) ?_
    refine AJ_y 8 rfl (by kernel_rfl) (by kernel_rfl) rfl rfl (YJ_loadFactN (vs := [_, _]) (xs := ptCells pts) rfl tyi_23 m1 (ptCells_get (i := (t.v0).toNat) (by omega)) rfl) ?_
    refine AJ_y 9 rfl (by kernel_rfl) (by kernel_rfl) rfl rfl (YJ_move rfl) ?_
    refine AJ_y 10 rfl (by kernel_rfl) (by kernel_rfl) rfl rfl (YJ_nilCheck rfl) ?_
    refine AJ_y 11 rfl (by kernel_rfl) (by kernel_rfl) rfl rfl (YJ_fieldOwn rfl fld_57_0 rfl) ?_
    refine AJ_y 12 rfl (by kernel_rfl) (by kernel_rfl) rfl rfl (YJ_loadFactP (A := some ⟨B, 0, none⟩) (j := 0) rfl rfl tyi_26 m0 rfl) ?_
    refine AJ_y 13 rfl (by kernel_rfl) (by kernel_rfl) rfl rfl (YJ_fieldOwn rfl fld_37_0 rfl) ?_
    refine AJ_y 14 rfl (by kernel_rfl) (by kernel_rfl) rfl rfl (YJ_ixArr rfl rfl arrt_34 (by omega) (by omega) rfl) ?_
    refine AJ_y 15 rfl (by kernel_rfl) (by kernel_rfl) rfl rfl (YJ_loadL rfl tyi_3 m0 rfl) ?_
    refine AJ_y 16 rfl (by kernel_rfl) (by kernel_rfl) rfl rfl (YJ_ixFact rfl rfl elt_26 m1 (by decide) (by omega) (by omega) (by omega)) ?_
    refine AJ_y 17 rfl (by kernel_rfl) (by kernel_rfl) rfl rfl (YJ_loadFactN (vs := [_, _]) (xs := ptCells pts) rfl tyi_23 m1 (ptCells_get (i := (t.v1).toNat) (by omega)) rfl) ?_
    refine AJ_y 18 rfl (by kernel_rfl) (by kernel_rfl) rfl rfl (YJ_move rfl) ?_
    refine AJ_y 19 rfl (by kernel_rfl) (by kernel_rfl) rfl rfl (YJ_nilCheck rfl) ?_
    refine AJ_y 20 rfl (by kernel_rfl) (by kernel_rfl) rfl rfl (YJ_fieldOwn rfl fld_57_0 rfl) ?_
    refine AJ_y 21 rfl (by kernel_rfl) (by kernel_rfl) rfl rfl (YJ_loadFactP (A := some ⟨B, 0, none⟩) (j := 0) rfl rfl tyi_26 m0 rfl) ?_
    refine AJ_y 22 rfl (by kernel_rfl) (by kernel_rfl) rfl rfl (YJ_fieldOwn rfl fld_37_0 rfl) ?_
    refine AJ_y 23 rfl (by kernel_rfl) (by kernel_rfl) rfl rfl (YJ_ixArr rfl rfl arrt_34 (by omega) (by omega) rfl) ?_
    refine AJ_y 24 rfl (by kernel_rfl) (by kernel_rfl) rfl rfl (YJ_loadL rfl tyi_3 m0 rfl) ?_
    refine AJ_y 25 rfl (by kernel_rfl) (by kernel_rfl) rfl rfl (YJ_ixFact rfl rfl elt_26 m1 (by decide) (by omega) (by omega) (by omega)) ?_
    refine AJ_y 26 rfl (by kernel_rfl) (by kernel_rfl) rfl rfl (YJ_loadFactN (vs := [_, _]) (xs := ptCells pts) rfl tyi_23 m1 (ptCells_get (i := (t.v2).toNat) (by omega)) rfl) ?_
    refine AJ_call0 27 rfl (by kernel_rfl) rfl rfl rfl rfl rfl (orient_c (hP t.v0.toNat (by omega)) (hP t.v1.toNat (by omega)) (hP t.v2.toNat (by omega))) (fun _ h => nomatch h) ?_
    refine AJ_y 28 rfl (by kernel_rfl) (by kernel_rfl) rfl rfl (YJ_bin rfl rfl rfl) ?_
    refine AJ_y 29 rfl (by kernel_rfl) (by kernel_rfl) rfl rfl (YJ_assign rfl) ?_
    refine AJ_done (by kernel_rfl) ?_
    refine QJ_then ?_
    refine CJ_ret ?_
    refine QJ_fin (.inl rfl) (μ' := []) (μr := _) (φ' := []) (res_tmp rfl rfl) (List.Perm.refl _) (fun _ h => nomatch h) ?_
    exact ⟨congrArg Value.bool (by unfold madeB; rw [if_neg h24, if_neg h29]; exact decide_eq_decide.2 sgn_pos), rfl, rfl⟩
end Go.Proofs.Ytbanlhlggkdanaa
namespace Go.Proofs.Ytbanlhlggkdanaa
open Go.RowKit
theorem ent_61 : Enter Try.prog 61 = true := by kernel_rfl
def besF (o t : Tr) (n : Int) (i : Nat) (f : Bool) (j : Nat) : Bool := if o.v ((j + 1) % 3) = t.v ((i + 2) % 3) ∧ o.v ((j + 2) % 3) = t.v ((i + 1) % 3) then (decide (o.n j = n) && (o.fl j == t.fl i)) else f
def besI (tris : List Tr) (t : Tr) (n : Int) (i : Nat) : Bool :=
 if t.n i < 0 ∨ tris.length ≤ t.n i ∨ (t.fl i = true ∧ (t.v ((i + 1) % 3) < 0 ∨ t.v ((i + 2) % 3) < 0)) then false
 else match tris[(t.n i).toNat]? with
  | some o => [0, 1, 2].foldl (besF o t n i) false
  | none => false
def besB (tris : List Tr) (t : Tr) (n : Int) : Bool := besI tris t n 0 && (besI tris t n 1 && besI tris t n 2)
theorem besB_false {tris : List Tr} {t : Tr} {n : Int} {k : Nat} (hk : k < 3) (h : besI tris t n k = false) : besB tris t n = false := by
 unfold besB
 match k, hk with
 | 0, _ => rw [h]; rfl
 | 1, _ => rw [h]; simp
 | 2, _ => rw [h]; simp
theorem b_three {o t : Tr} {n : Int} {i k : Nat} (hk : k < 3) : ([0, 1, 2].take (k + 1)).foldl (besF o t n i) false = besF o t n i (([0, 1, 2].take k).foldl (besF o t n i) false) k := by
 match k, hk with
 | 0, _ => rfl
 | 1, _ => rfl
 | 2, _ => rfl
set_option maxRecDepth 100000 in
set_option maxHeartbeats 8000000 in
theorem beside_c {B : Nat} {h : Mh} {pts : List (Int × Int)} {tris : List Tr} {t : Tr} {n : Nat} (ht : tris[n]? = some t) (hlen : tris.length ≤ 1073741824) : Tri Try.prog 61 [.pointer (some ⟨B, 0, none⟩), .int .i64 (n : Nat)] [] (meshFs B h pts tris) (Ret0 (.bool (besB tris t (n : Nat)))) := by
 refine Tri_of (N := 112) Try.func61 rfl ent_61 rfl rfl ?_
 intro w0 S0 T0
 show CJ _ _ _ [(0, _), (1, _)] _ _
 have hnl := (List.getElem?_eq_some_iff.1 ht).1
 refine CJ_seq ?_
 refine CJ_reg ?_
 refine LJ_y rfl rfl (YJ_assign rfl) ?_
 refine LJ_nil ?_
 refine QJ_then ?_
 refine CJ_seq ?_
 refine CJ_reg ?_
 refine LJ_y rfl rfl (YJ_move rfl) ?_
 refine LJ_y rfl rfl (YJ_nilCheck rfl) ?_
 refine LJ_y rfl rfl (YJ_fieldOwn rfl fld_57_1 rfl) ?_
 refine LJ_y rfl rfl (YJ_loadFactP (A := some ⟨B, 0, none⟩) (j := 1) rfl rfl tyi_54 m0 rfl) ?_
 refine LJ_y rfl rfl (YJ_move rfl) ?_
 refine LJ_y rfl rfl (YJ_ixFact rfl rfl elt_54 m2 (by decide) (by omega) (by omega) (by omega)) ?_
 refine LJ_y rfl rfl (YJ_loadFactN (vs := [.int .i64 t.v0, .int .i64 t.v1, .int .i64 t.v2, .int .i64 t.n0, .int .i64 t.n1, .int .i64 t.n2, .bool t.f0, .bool t.f1, .bool t.f2]) (xs := trCells tris) rfl tyi_37 m2 (trCells_row (cast_idx ht)) rfl) ?_
 refine LJ_alloc (cs := #[_, _, _, _, _, _, _, _, _]) rfl rfl zer_37 rfl ?_
 intro b1
 refine LJ_store (cs' := #[_, _, _, _, _, _, _, _, _]) (μ' := [_]) 0 rfl rfl rfl rfl tyi_37 rfl (Nat.le_of_ble_eq_true rfl) rfl (wr_all rfl) rfl ?_
 refine LJ_nil ?_
 refine QJ_then ?_
 refine CJ_seq ?_
 refine CJ_seq ?_
 refine CJ_reg ?_
 refine LJ_y rfl rfl (YJ_fieldOwn rfl fld_37_1 rfl) ?_
 refine LJ_y rfl rfl (YJ_loadN (vs := [_, _, _]) rfl tyi_34 m0 rfl rfl) ?_
 refine LJ_y rfl rfl (YJ_move rfl) ?_
 refine LJ_nil ?_
 refine QJ_then ?_
 refine CJ_block ?_
 refine CJ_loopF (F := fun (i : Nat) => ⟨[(0, .pointer (some ⟨B, 0, none⟩)), (1, .int .i64 (n : Nat)), (5, .pointer (some ⟨b1, 0, none⟩)), (21, .agg #[.int .i64 t.n0, .int .i64 t.n1, .int .i64 t.n2]), (22, .int .i64 (i : Nat))], [cellsR b1 #[.int .i64 t.v0, .int .i64 t.v1, .int .i64 t.v2, .int .i64 t.n0, .int .i64 t.n1, .int .i64 t.n2, .bool t.f0, .bool t.f1, .bool t.f2] 37], []⟩) (I := fun (i : Nat) => i ≤ 3 ∧ ∀ q, q < i → besI tris t (n : Nat) q = true) (m := fun (i : Nat) => 3 - i) 0 (μr := []) ⟨Nat.zero_le _, fun _ h => absurd h (Nat.not_lt_zero _)⟩ (And.intro rfl (And.intro rfl (And.intro rfl (And.intro rfl (And.intro rfl (trivial)))))) (permI [] rfl) (fun _ h => nomatch h) ?_
 rintro k ⟨hk, hbs⟩
 try dsimp only at hk
 try dsimp only at hbs
 show CJ _ _ _ [(0, .pointer (some ⟨B, 0, none⟩)), (1, .int .i64 (n : Nat)), (5, .pointer (some ⟨b1, 0, none⟩)), (21, .agg #[.int .i64 t.n0, .int .i64 t.n1, .int .i64 t.n2]), (22, .int .i64 (k : Nat))] (cellsR b1 #[.int .i64 t.v0, .int .i64 t.v1, .int .i64 t.v2, .int .i64 t.n0, .int .i64 t.n1, .int .i64 t.n2, .bool t.f0, .bool t.f1, .bool t.f2] 37 :: _) _
 refine CJ_seq ?_
 refine CJ_reg ?_
 refine LJ_y rfl rfl (YJ_bin rfl rfl rfl) ?_
 refine LJ_nil ?_
 refine QJ_then ?_
 refine CJ_seq ?_
 refine CJ_cond rfl (fun h23 => ?_) (fun h23 => ?_)
 ·simp only [decide_eq_true_eq] at h23
  have hk3 : k < 3 := by omega
  refine CJ_skip ?_
  refine QJ_then ?_
  refine CJ_seq ?_
  refine CJ_block ?_
  refine CJ_seq ?_
  refine CJ_reg ?_
  refine LJ_y rfl rfl (YJ_move rfl) ?_
  refine LJ_y rfl rfl (YJ_index1 rfl rfl arrt_34 tyi_3 (by omega) (by omega) (n_get hk3)) ?_
  refine LJ_y rfl rfl (YJ_assign rfl) ?_
  refine LJ_y rfl rfl (YJ_assign rfl) ?_
  refine LJ_nil ?_
  refine QJ_then ?_
  refine CJ_seq ?_
  refine CJ_regD mix (by kernel_rfl) (fun _ _ _ _ _ h => h) _ _ (fun _ h => h) (fun _ h => h) ?_
  refine AJ_y 0 rfl (by kernel_rfl) (by kernel_rfl) rfl rfl (YJ_move rfl) ?_
  refine AJ_y 1 rfl (by kernel_rfl) (by kernel_rfl) rfl rfl (YJ_bin rfl rfl (iop_add (by omega))) ?_
  refine AJ_y 2 rfl (by kernel_rfl) (by kernel_rfl) rfl rfl (YJ_rem rfl rfl (by first | decide | omega)) ?_
  refine AJ_val (v := .int .i64 (((k + 1) % 3 : Nat) : Int)) (congrArg (Value.int .i64) (tm3 (j := 1) hk3 (by decide))) ?_
  refine AJ_y 3 rfl (by kernel_rfl) (by kernel_rfl) rfl rfl (YJ_fieldOwn rfl fld_37_0 rfl) ?_
  refine AJ_y 4 rfl (by kernel_rfl) (by kernel_rfl) rfl rfl (YJ_ixArr rfl rfl arrt_34 (by omega) (by omega) rfl) ?_
  refine AJ_y 5 rfl (by kernel_rfl) (by kernel_rfl) rfl rfl (YJ_load1 rfl tyi_3 m0 (v_get (t := t) (Nat.mod_lt (k + 1) (by decide)))) ?_
  refine AJ_y 6 rfl (by kernel_rfl) (by kernel_rfl) rfl rfl (YJ_move rfl) ?_
  refine AJ_y 7 rfl (by kernel_rfl) (by kernel_rfl) rfl rfl (YJ_bin rfl rfl (iop_add (by omega))) ?_
  refine AJ_y 8 rfl (by kernel_rfl) (by kernel_rfl) rfl rfl (YJ_rem rfl rfl (by first | decide | omega)) ?_
  refine AJ_val (v := .int .i64 (((k + 2) % 3 : Nat) : Int)) (congrArg (Value.int .i64) (tm3 (j := 2) hk3 (by decide))) ?_
  refine AJ_y 9 rfl (by kernel_rfl) (by kernel_rfl) rfl rfl (YJ_fieldOwn rfl fld_37_0 rfl) ?_
  refine AJ_y 10 rfl (by kernel_rfl) (by kernel_rfl) rfl rfl (YJ_ixArr rfl rfl arrt_34 (by omega) (by omega) rfl) ?_
  refine AJ_y 11 rfl (by kernel_rfl) (by kernel_rfl) rfl rfl (YJ_load1 rfl tyi_3 m0 (v_get (t := t) (Nat.mod_lt (k + 2) (by decide)))) ?_
  refine AJ_y 12 rfl (by kernel_rfl) (by kernel_rfl) rfl rfl (YJ_assign rfl) ?_
  refine AJ_y 13 rfl (by kernel_rfl) (by kernel_rfl) rfl rfl (YJ_assign rfl) ?_
  refine AJ_done (by kernel_rfl) ?_
  refine QJ_then ?_
  refine CJ_seq ?_
  refine CJ_seq ?_
  refine CJ_reg ?_
  refine LJ_y rfl rfl (YJ_move rfl) ?_
  refine LJ_y rfl rfl (YJ_bin rfl rfl rfl) ?_
  refine LJ_y rfl rfl (YJ_move rfl) ?_
  refine LJ_boolC (fun h40 => ?_) (fun h40 => ?_)
  ·simp only [decide_eq_true_eq] at h40
   refine LJ_skip rfl rfl ?_
   refine LJ_skip rfl rfl ?_
   refine LJ_skip rfl rfl ?_
   refine LJ_skip rfl rfl ?_
   refine LJ_skip rfl rfl ?_
   refine LJ_skip rfl rfl ?_
   refine LJ_skip rfl rfl ?_
   refine LJ_y rfl rfl (YJ_pickT rfl rfl) ?_
   refine LJ_y rfl rfl (YJ_move rfl) ?_
   refine LJ_skip rfl rfl ?_
   refine LJ_skip rfl rfl ?_
   refine LJ_skip rfl rfl ?_
   refine LJ_skip rfl rfl ?_
   refine LJ_skip rfl rfl ?_
   refine LJ_skip rfl rfl ?_
   refine LJ_skip rfl rfl ?_
   refine LJ_skip rfl rfl ?_
   refine LJ_skip rfl rfl ?_
   refine LJ_skip rfl rfl ?_
   refine LJ_skip rfl rfl ?_
   refine LJ_skip rfl rfl ?_
   refine LJ_y rfl rfl (YJ_pickT rfl rfl) ?_
   refine LJ_nil ?_
   refine QJ_then ?_
   refine CJ_condT rfl ?_
   refine CJ_seq ?_
   refine CJ_reg ?_
   refine LJ_y rfl rfl (YJ_assign rfl) ?_
   refine LJ_nil ?_
   refine QJ_then ?_
   refine CJ_ret ?_
   refine QJ_then_ret ?_
   refine QJ_in_ret ?_
   refine QJ_then_ret ?_
   refine QJ_then_ret ?_
   refine QJ_in_ret ?_
   refine QJ_then_ret ?_
   refine QJ_fin (.inl rfl) (μ' := []) (μr := _) (φ' := []) (res_tmp rfl rfl) (List.Perm.refl _) (fun _ h => nomatch h) ?_
   exact ⟨congrArg Value.bool (besB_false hk3 (by unfold besI; rw [if_pos (.inl h40)])).symm, rfl, rfl⟩
  ·simp only [decide_eq_false_iff_not] at h40
   refine LJ_y rfl rfl (YJ_move rfl) ?_
   refine LJ_y rfl rfl (YJ_move rfl) ?_
   refine LJ_y rfl rfl (YJ_nilCheck rfl) ?_
   refine LJ_y rfl rfl (YJ_fieldOwn rfl fld_57_1 rfl) ?_
   refine LJ_y rfl rfl (YJ_loadFactP (A := some ⟨B, 0, none⟩) (j := 1) rfl rfl tyi_54 m0 rfl) ?_
   refine LJ_y rfl rfl (YJ_len rfl ulen_54 rfl) ?_
   refine LJ_y rfl rfl (YJ_bin rfl rfl rfl) ?_
   refine LJ_y rfl rfl (YJ_pickF rfl rfl) ?_
   refine LJ_y rfl rfl (YJ_move rfl) ?_
   refine LJ_boolC (fun h49 => ?_) (fun h49 => ?_)
   ·simp only [decide_eq_true_eq] at h49
    refine LJ_skip rfl rfl ?_
    refine LJ_skip rfl rfl ?_
    refine LJ_skip rfl rfl ?_
    refine LJ_skip rfl rfl ?_
    refine LJ_skip rfl rfl ?_
    refine LJ_skip rfl rfl ?_
    refine LJ_skip rfl rfl ?_
    refine LJ_skip rfl rfl ?_
    refine LJ_skip rfl rfl ?_
    refine LJ_skip rfl rfl ?_
    refine LJ_skip rfl rfl ?_
    refine LJ_skip rfl rfl ?_
    refine LJ_y rfl rfl (YJ_pickT rfl rfl) ?_
    refine LJ_nil ?_
    refine QJ_then ?_
    refine CJ_condT rfl ?_
    refine CJ_seq ?_
    refine CJ_reg ?_
    refine LJ_y rfl rfl (YJ_assign rfl) ?_
    refine LJ_nil ?_
    refine QJ_then ?_
    refine CJ_ret ?_
    refine QJ_then_ret ?_
    refine QJ_in_ret ?_
    refine QJ_then_ret ?_
    refine QJ_then_ret ?_
    refine QJ_in_ret ?_
    refine QJ_then_ret ?_
    refine QJ_fin (.inl rfl) (μ' := []) (μr := _) (φ' := []) (res_tmp rfl rfl) (List.Perm.refl _) (fun _ h => nomatch h) ?_
    exact ⟨congrArg Value.bool (besB_false hk3 (by unfold besI; rw [if_pos (.inr (.inl h49))])).symm, rfl, rfl⟩
   ·simp only [decide_eq_false_iff_not] at h49
    refine LJ_y rfl rfl (YJ_move rfl) ?_
    refine LJ_y rfl rfl (YJ_fieldOwn rfl fld_37_2 rfl) ?_
    refine LJ_y rfl rfl (YJ_ixArr rfl rfl arrt_35 (by omega) (by omega) rfl) ?_
    refine LJ_y rfl rfl (YJ_load1 rfl tyi_4 m0 (fa_get (t := t) hk3)) ?_
    refine LJ_y rfl rfl (YJ_move rfl) ?_
    refine LJ_boolC (fun h54 => ?_) (fun h54 => ?_)
    ·skip
     refine LJ_y rfl rfl (YJ_move rfl) ?_
     refine LJ_y rfl rfl (YJ_bin rfl rfl rfl) ?_
     refine LJ_y rfl rfl (YJ_move rfl) ?_
     refine LJ_boolC (fun h57 => ?_) (fun h57 => ?_)
     ·simp only [decide_eq_true_eq] at h57
      refine LJ_skip rfl rfl ?_
      refine LJ_skip rfl rfl ?_
      refine LJ_y rfl rfl (YJ_pickT rfl rfl) ?_
      refine LJ_y rfl rfl (YJ_pickT rfl rfl) ?_
      refine LJ_y rfl rfl (YJ_pickF rfl rfl) ?_
      refine LJ_nil ?_
      refine QJ_then ?_
      refine CJ_condT rfl ?_
      refine CJ_seq ?_
      refine CJ_reg ?_
      refine LJ_y rfl rfl (YJ_assign rfl) ?_
      refine LJ_nil ?_
      refine QJ_then ?_
      refine CJ_ret ?_
      refine QJ_then_ret ?_
      refine QJ_in_ret ?_
      refine QJ_then_ret ?_
      refine QJ_then_ret ?_
      refine QJ_in_ret ?_
      refine QJ_then_ret ?_
      refine QJ_fin (.inl rfl) (μ' := []) (μr := _) (φ' := []) (res_tmp rfl rfl) (List.Perm.refl _) (fun _ h => nomatch h) ?_
      exact ⟨congrArg Value.bool (besB_false hk3 (by unfold besI; rw [if_pos (.inr (.inr ⟨h54, .inl h57⟩))])).symm, rfl, rfl⟩
     ·simp only [decide_eq_false_iff_not] at h57
      refine LJ_y rfl rfl (YJ_move rfl) ?_
      refine LJ_y rfl rfl (YJ_bin rfl rfl rfl) ?_
      refine LJ_y rfl rfl (YJ_pickF rfl rfl) ?_
      refine LJ_y rfl rfl (YJ_pickT rfl rfl) ?_
      refine LJ_y rfl rfl (YJ_pickF rfl rfl) ?_
      refine LJ_nil ?_
      refine QJ_then ?_
      refine CJ_cond rfl (fun h62 => ?_) (fun h62 => ?_)
      ·simp only [decide_eq_true_eq] at h62
       refine CJ_seq ?_
       refine CJ_reg ?_
       refine LJ_y rfl rfl (YJ_assign rfl) ?_
       refine LJ_nil ?_
       refine QJ_then ?_
       refine CJ_ret ?_
       refine QJ_then_ret ?_
       refine QJ_in_ret ?_
       refine QJ_then_ret ?_
       refine QJ_then_ret ?_
       refine QJ_in_ret ?_
       refine QJ_then_ret ?_
       refine QJ_fin (.inl rfl) (μ' := []) (μr := _) (φ' := []) (res_tmp rfl rfl) (List.Perm.refl _) (fun _ h => nomatch h) ?_
       exact ⟨congrArg Value.bool (besB_false hk3 (by unfold besI; rw [if_pos (.inr (.inr ⟨h54, .inr h62⟩))])).symm, rfl, rfl⟩
      ·simp only [decide_eq_false_iff_not] at h62
       have hneg : ¬ (t.n k < 0 ∨ tris.length ≤ t.n k ∨ (t.fl k = true ∧ (t.v ((k + 1) % 3) < 0 ∨ t.v ((k + 2) % 3) < 0))) := by
        rintro (q | q | ⟨q, q2⟩)
        ·omega
        ·omega
        ·rcases q2 with q2 | q2
         ·exact h57 q2
         ·exact h62 q2
       obtain ⟨o, ho⟩ := get_of_lt (tris := tris) (i := t.n k) (by omega) (by omega)
       refine CJ_skip ?_
       refine QJ_then ?_
       refine CJ_seq ?_
       refine CJ_reg ?_
       refine LJ_y rfl rfl (YJ_move rfl) ?_
       refine LJ_y rfl rfl (YJ_nilCheck rfl) ?_
       refine LJ_y rfl rfl (YJ_fieldOwn rfl fld_57_1 rfl) ?_
       refine LJ_y rfl rfl (YJ_loadFactP (A := some ⟨B, 0, none⟩) (j := 1) rfl rfl tyi_54 m0 rfl) ?_
       refine LJ_y rfl rfl (YJ_move rfl) ?_
       refine LJ_y rfl rfl (YJ_ixFact rfl rfl elt_54 m2 (by decide) (by omega) (by omega) (by omega)) ?_
       refine LJ_y rfl rfl (YJ_loadFactN (vs := [.int .i64 o.v0, .int .i64 o.v1, .int .i64 o.v2, .int .i64 o.n0, .int .i64 o.n1, .int .i64 o.n2, .bool o.f0, .bool o.f1, .bool o.f2]) (xs := trCells tris) rfl tyi_37 m2 (trCells_row ho) rfl) ?_
       refine LJ_alloc (cs := #[_, _, _, _, _, _, _, _, _]) rfl rfl zer_37 rfl ?_
       intro b2
       refine LJ_store (cs' := #[_, _, _, _, _, _, _, _, _]) (μ' := [_, _]) 0 rfl rfl rfl rfl tyi_37 rfl (Nat.le_of_ble_eq_true rfl) rfl (wr_all rfl) rfl ?_
       refine LJ_y rfl rfl (YJ_assign rfl) ?_
       refine LJ_nil ?_
       refine QJ_then ?_
       refine CJ_seq ?_
       refine CJ_seq ?_
       refine CJ_reg ?_
       refine LJ_y rfl rfl (YJ_move rfl) ?_
       refine LJ_nil ?_
       refine QJ_then ?_
       refine CJ_block ?_
       refine CJ_loopF (F := fun (i : Nat × Bool) => ⟨[(0, .pointer (some ⟨B, 0, none⟩)), (1, .int .i64 (n : Nat)), (5, .pointer (some ⟨b1, 0, none⟩)), (21, .agg #[.int .i64 t.n0, .int .i64 t.n1, .int .i64 t.n2]), (6, .int .i64 (k : Nat)), (8, .int .i64 (t.v ((k + 1) % 3))), (9, .int .i64 (t.v ((k + 2) % 3))), (10, .pointer (some ⟨b2, 0, none⟩)), (11, .bool i.2), (22, .int .i64 (k : Nat)), (70, .int .i64 (i.1 : Nat))], [cellsR b2 #[.int .i64 o.v0, .int .i64 o.v1, .int .i64 o.v2, .int .i64 o.n0, .int .i64 o.n1, .int .i64 o.n2, .bool o.f0, .bool o.f1, .bool o.f2] 37, cellsR b1 #[.int .i64 t.v0, .int .i64 t.v1, .int .i64 t.v2, .int .i64 t.n0, .int .i64 t.n1, .int .i64 t.n2, .bool t.f0, .bool t.f1, .bool t.f2] 37], []⟩) (I := fun (i : Nat × Bool) => i.1 ≤ 3 ∧ i.2 = ([0, 1, 2].take i.1).foldl (besF o t (n : Nat) k) false) (m := fun (i : Nat × Bool) => 3 - i.1) (0, false) (μr := []) ⟨Nat.zero_le _, rfl⟩ (And.intro rfl (And.intro rfl (And.intro rfl (And.intro rfl (And.intro rfl (And.intro rfl (And.intro rfl (And.intro rfl (And.intro rfl (And.intro rfl (And.intro rfl (trivial)))))))))))) (permI [] rfl) (fun _ h => nomatch h) ?_
       rintro ⟨j, fd⟩ ⟨hj, hfd⟩
       try dsimp only at hj
       try dsimp only at hfd
       show CJ _ _ _ [(0, .pointer (some ⟨B, 0, none⟩)), (1, .int .i64 (n : Nat)), (5, .pointer (some ⟨b1, 0, none⟩)), (21, .agg #[.int .i64 t.n0, .int .i64 t.n1, .int .i64 t.n2]), (6, .int .i64 (k : Nat)), (8, .int .i64 (t.v ((k + 1) % 3))), (9, .int .i64 (t.v ((k + 2) % 3))), (10, .pointer (some ⟨b2, 0, none⟩)), (11, .bool fd), (22, .int .i64 (k : Nat)), (70, .int .i64 (j : Nat))] (cellsR b2 #[.int .i64 o.v0, .int .i64 o.v1, .int .i64 o.v2, .int .i64 o.n0, .int .i64 o.n1, .int .i64 o.n2, .bool o.f0, .bool o.f1, .bool o.f2] 37 :: cellsR b1 #[.int .i64 t.v0, .int .i64 t.v1, .int .i64 t.v2, .int .i64 t.n0, .int .i64 t.n1, .int .i64 t.n2, .bool t.f0, .bool t.f1, .bool t.f2] 37 :: _) _
       refine CJ_seq ?_
       refine CJ_reg ?_
       refine LJ_y rfl rfl (YJ_bin rfl rfl rfl) ?_
       refine LJ_nil ?_
       refine QJ_then ?_
       refine CJ_seq ?_
       refine CJ_cond rfl (fun h71 => ?_) (fun h71 => ?_)
       ·simp only [decide_eq_true_eq] at h71
        have hj3 : j < 3 := by omega
        refine CJ_skip ?_
        refine QJ_then ?_
        refine CJ_seq ?_
        refine CJ_block ?_
        refine CJ_seq ?_
        refine CJ_reg ?_
        refine LJ_y rfl rfl (YJ_move rfl) ?_
        refine LJ_y rfl rfl (YJ_assign rfl) ?_
        refine LJ_nil ?_
        refine QJ_then ?_
        refine CJ_seq ?_
        refine CJ_reg ?_
        refine LJ_y rfl rfl (YJ_move rfl) ?_
        refine LJ_y rfl rfl (YJ_bin rfl rfl (iop_add (by omega))) ?_
        refine LJ_y rfl rfl (YJ_rem rfl rfl (by first | decide | omega)) ?_
        refine LJ_val (v := .int .i64 (((j + 1) % 3 : Nat) : Int)) (congrArg (Value.int .i64) (tm3 (j := 1) hj3 (by decide))) ?_
        refine LJ_y rfl rfl (YJ_fieldOwn rfl fld_37_0 rfl) ?_
        refine LJ_y rfl rfl (YJ_ixArr rfl rfl arrt_34 (by omega) (by omega) rfl) ?_
        refine LJ_y rfl rfl (YJ_load1 rfl tyi_3 m0 (v_get (t := o) (Nat.mod_lt (j + 1) (by decide)))) ?_
        refine LJ_y rfl rfl (YJ_move rfl) ?_
        refine LJ_y rfl rfl (YJ_bin rfl rfl rfl) ?_
        refine LJ_y rfl rfl (YJ_move rfl) ?_
        refine LJ_boolC (fun h81 => ?_) (fun h81 => ?_)
        ·simp only [decide_eq_true_eq] at h81
         refine LJ_y rfl rfl (YJ_move rfl) ?_
         refine LJ_y rfl rfl (YJ_bin rfl rfl (iop_add (by omega))) ?_
         refine LJ_y rfl rfl (YJ_rem rfl rfl (by first | decide | omega)) ?_
         refine LJ_val (v := .int .i64 (((j + 2) % 3 : Nat) : Int)) (congrArg (Value.int .i64) (tm3 (j := 2) hj3 (by decide))) ?_
         refine LJ_y rfl rfl (YJ_fieldOwn rfl fld_37_0 rfl) ?_
         refine LJ_y rfl rfl (YJ_ixArr rfl rfl arrt_34 (by omega) (by omega) rfl) ?_
         refine LJ_y rfl rfl (YJ_load1 rfl tyi_3 m0 (v_get (t := o) (Nat.mod_lt (j + 2) (by decide)))) ?_
         refine LJ_y rfl rfl (YJ_move rfl) ?_
         refine LJ_y rfl rfl (YJ_bin rfl rfl rfl) ?_
         refine LJ_y rfl rfl (YJ_pickT rfl rfl) ?_
         refine LJ_nil ?_
         refine QJ_then ?_
         refine CJ_cond rfl (fun h90 => ?_) (fun h90 => ?_)
         ·simp only [decide_eq_true_eq] at h90
          refine CJ_regD mix (by kernel_rfl) (fun _ _ _ _ _ h => h) _ _ (fun _ h => h) (fun _ h => h) ?_
          refine AJ_y 0 rfl (by kernel_rfl) (by kernel_rfl) rfl rfl (YJ_move rfl) ?_
          refine AJ_y 1 rfl (by kernel_rfl) (by kernel_rfl) rfl rfl (YJ_fieldOwn rfl fld_37_1 rfl) ?_
          refine AJ_y 2 rfl (by kernel_rfl) (by kernel_rfl) rfl rfl (YJ_ixArr rfl rfl arrt_34 (by omega) (by omega) rfl) ?_
          refine AJ_y 3 rfl (by kernel_rfl) (by kernel_rfl) rfl rfl (YJ_load1 rfl tyi_3 m0 (na_get (t := o) hj3)) ?_
          refine AJ_y 4 rfl (by kernel_rfl) (by kernel_rfl) rfl rfl (YJ_move rfl) ?_
          refine AJ_y 5 rfl (by kernel_rfl) (by kernel_rfl) rfl rfl (YJ_bin rfl rfl rfl) ?_
          refine AJ_y 6 rfl (by kernel_rfl) (by kernel_rfl) rfl rfl (YJ_move rfl) ?_
          refine AJ_boolC (fun h97 => ?_) (fun h97 => ?_)
          ·simp only [decide_eq_true_eq] at h97
           refine AJ_y 7 rfl (by kernel_rfl) (by kernel_rfl) rfl rfl (YJ_move rfl) ?_
           refine AJ_y 8 rfl (by kernel_rfl) (by kernel_rfl) rfl rfl (YJ_fieldOwn rfl fld_37_2 rfl) ?_
           refine AJ_y 9 rfl (by kernel_rfl) (by kernel_rfl) rfl rfl (YJ_ixArr rfl rfl arrt_35 (by omega) (by omega) rfl) ?_
           refine AJ_y 10 rfl (by kernel_rfl) (by kernel_rfl) rfl rfl (YJ_load1 rfl tyi_4 m0 (fa_get (t := o) hj3)) ?_
           refine AJ_y 11 rfl (by kernel_rfl) (by kernel_rfl) rfl rfl (YJ_move rfl) ?_
           refine AJ_y 12 rfl (by kernel_rfl) (by kernel_rfl) rfl rfl (YJ_fieldOwn rfl fld_37_2 rfl) ?_
           refine AJ_y 13 rfl (by kernel_rfl) (by kernel_rfl) rfl rfl (YJ_ixArr rfl rfl arrt_35 (by omega) (by omega) rfl) ?_
           refine AJ_y 14 rfl (by kernel_rfl) (by kernel_rfl) rfl rfl (YJ_load1 rfl tyi_4 m1 (fa_get (t := t) hk3)) ?_
           refine AJ_y 15 rfl (by kernel_rfl) (by kernel_rfl) rfl rfl (YJ_eqb rfl rfl ubool_4) ?_
           refine AJ_y 16 rfl (by kernel_rfl) (by kernel_rfl) rfl rfl (YJ_pickT rfl rfl) ?_
           refine AJ_y 17 rfl (by kernel_rfl) (by kernel_rfl) rfl rfl (YJ_assign rfl) ?_
           refine AJ_done (by kernel_rfl) ?_
           refine QJ_in_normal ?_
           refine QJ_then ?_
           refine CJ_reg ?_
           refine LJ_y rfl rfl (YJ_bin rfl rfl (iop_add (by omega))) ?_
           refine LJ_y rfl rfl (YJ_move rfl) ?_
           refine LJ_nil ?_
           refine QJ_roundF (F := fun (i : Nat × Bool) => ⟨[(0, .pointer (some ⟨B, 0, none⟩)), (1, .int .i64 (n : Nat)), (5, .pointer (some ⟨b1, 0, none⟩)), (21, .agg #[.int .i64 t.n0, .int .i64 t.n1, .int .i64 t.n2]), (6, .int .i64 (k : Nat)), (8, .int .i64 (t.v ((k + 1) % 3))), (9, .int .i64 (t.v ((k + 2) % 3))), (10, .pointer (some ⟨b2, 0, none⟩)), (11, .bool i.2), (22, .int .i64 (k : Nat)), (70, .int .i64 (i.1 : Nat))], [cellsR b2 #[.int .i64 o.v0, .int .i64 o.v1, .int .i64 o.v2, .int .i64 o.n0, .int .i64 o.n1, .int .i64 o.n2, .bool o.f0, .bool o.f1, .bool o.f2] 37, cellsR b1 #[.int .i64 t.v0, .int .i64 t.v1, .int .i64 t.v2, .int .i64 t.n0, .int .i64 t.n1, .int .i64 t.n2, .bool t.f0, .bool t.f1, .bool t.f2] 37], []⟩) (I := fun (i : Nat × Bool) => i.1 ≤ 3 ∧ i.2 = ([0, 1, 2].take i.1).foldl (besF o t (n : Nat) k) false) (m := fun (i : Nat × Bool) => 3 - i.1) (i := (j, fd)) ((j + 1, (o.fl j == t.fl k))) (μd := []) ⟨by omega, by dsimp only; rw [b_three hj3]; unfold besF; rw [if_pos ⟨h81, h90⟩, decide_eq_true h97, Bool.true_and]⟩ (by dsimp only; omega) (And.intro rfl (And.intro rfl (And.intro rfl (And.intro rfl (And.intro rfl (And.intro rfl (And.intro rfl (And.intro rfl (And.intro rfl (And.intro rfl (And.intro rfl (trivial)))))))))))) (permI [] rfl) (fun _ h => nomatch h) (fun _ h => h)
          ·simp only [decide_eq_false_iff_not] at h97
           refine AJ_skip 7 rfl (by kernel_rfl) (by kernel_rfl) rfl rfl ?_
           refine AJ_skip 8 rfl (by kernel_rfl) (by kernel_rfl) rfl rfl ?_
           refine AJ_skip 9 rfl (by kernel_rfl) (by kernel_rfl) rfl rfl ?_
           refine AJ_skip 10 rfl (by kernel_rfl) (by kernel_rfl) rfl rfl ?_
           refine AJ_skip 11 rfl (by kernel_rfl) (by kernel_rfl) rfl rfl ?_
           refine AJ_skip 12 rfl (by kernel_rfl) (by kernel_rfl) rfl rfl ?_
           refine AJ_skip 13 rfl (by kernel_rfl) (by kernel_rfl) rfl rfl ?_
           refine AJ_skip 14 rfl (by kernel_rfl) (by kernel_rfl) rfl rfl ?_
           refine AJ_skip 15 rfl (by kernel_rfl) (by kernel_rfl) rfl rfl ?_
           refine AJ_y 16 rfl (by kernel_rfl) (by kernel_rfl) rfl rfl (YJ_pickF rfl rfl) ?_
           refine AJ_y 17 rfl (by kernel_rfl) (by kernel_rfl) rfl rfl (YJ_assign rfl) ?_
           refine AJ_done (by kernel_rfl) ?_
           refine QJ_in_normal ?_
           refine QJ_then ?_
           refine CJ_reg ?_
           refine LJ_y rfl rfl (YJ_bin rfl rfl (iop_add (by omega))) ?_
           refine LJ_y rfl rfl (YJ_move rfl) ?_
           refine LJ_nil ?_
           refine QJ_roundF (F := fun (i : Nat × Bool) => ⟨[(0, .pointer (some ⟨B, 0, none⟩)), (1, .int .i64 (n : Nat)), (5, .pointer (some ⟨b1, 0, none⟩)), (21, .agg #[.int .i64 t.n0, .int .i64 t.n1, .int .i64 t.n2]), (6, .int .i64 (k : Nat)), (8, .int .i64 (t.v ((k + 1) % 3))), (9, .int .i64 (t.v ((k + 2) % 3))), (10, .pointer (some ⟨b2, 0, none⟩)), (11, .bool i.2), (22, .int .i64 (k : Nat)), (70, .int .i64 (i.1 : Nat))], [cellsR b2 #[.int .i64 o.v0, .int .i64 o.v1, .int .i64 o.v2, .int .i64 o.n0, .int .i64 o.n1, .int .i64 o.n2, .bool o.f0, .bool o.f1, .bool o.f2] 37, cellsR b1 #[.int .i64 t.v0, .int .i64 t.v1, .int .i64 t.v2, .int .i64 t.n0, .int .i64 t.n1, .int .i64 t.n2, .bool t.f0, .bool t.f1, .bool t.f2] 37], []⟩) (I := fun (i : Nat × Bool) => i.1 ≤ 3 ∧ i.2 = ([0, 1, 2].take i.1).foldl (besF o t (n : Nat) k) false) (m := fun (i : Nat × Bool) => 3 - i.1) (i := (j, fd)) ((j + 1, false)) (μd := []) ⟨by omega, by dsimp only; rw [b_three hj3]; unfold besF; rw [if_pos ⟨h81, h90⟩, decide_eq_false h97, Bool.false_and]⟩ (by dsimp only; omega) (And.intro rfl (And.intro rfl (And.intro rfl (And.intro rfl (And.intro rfl (And.intro rfl (And.intro rfl (And.intro rfl (And.intro rfl (And.intro rfl (And.intro rfl (trivial)))))))))))) (permI [] rfl) (fun _ h => nomatch h) (fun _ h => h)
         ·simp only [decide_eq_false_iff_not] at h90
          refine CJ_skip ?_
          refine QJ_in_normal ?_
          refine QJ_then ?_
          refine CJ_reg ?_
          refine LJ_y rfl rfl (YJ_bin rfl rfl (iop_add (by omega))) ?_
          refine LJ_y rfl rfl (YJ_move rfl) ?_
          refine LJ_nil ?_
          refine QJ_roundF (F := fun (i : Nat × Bool) => ⟨[(0, .pointer (some ⟨B, 0, none⟩)), (1, .int .i64 (n : Nat)), (5, .pointer (some ⟨b1, 0, none⟩)), (21, .agg #[.int .i64 t.n0, .int .i64 t.n1, .int .i64 t.n2]), (6, .int .i64 (k : Nat)), (8, .int .i64 (t.v ((k + 1) % 3))), (9, .int .i64 (t.v ((k + 2) % 3))), (10, .pointer (some ⟨b2, 0, none⟩)), (11, .bool i.2), (22, .int .i64 (k : Nat)), (70, .int .i64 (i.1 : Nat))], [cellsR b2 #[.int .i64 o.v0, .int .i64 o.v1, .int .i64 o.v2, .int .i64 o.n0, .int .i64 o.n1, .int .i64 o.n2, .bool o.f0, .bool o.f1, .bool o.f2] 37, cellsR b1 #[.int .i64 t.v0, .int .i64 t.v1, .int .i64 t.v2, .int .i64 t.n0, .int .i64 t.n1, .int .i64 t.n2, .bool t.f0, .bool t.f1, .bool t.f2] 37], []⟩) (I := fun (i : Nat × Bool) => i.1 ≤ 3 ∧ i.2 = ([0, 1, 2].take i.1).foldl (besF o t (n : Nat) k) false) (m := fun (i : Nat × Bool) => 3 - i.1) (i := (j, fd)) ((j + 1, fd)) (μd := []) ⟨by omega, by dsimp only; rw [b_three hj3, ← hfd]; unfold besF; rw [if_neg (fun q => h90 q.2)]⟩ (by dsimp only; omega) (And.intro rfl (And.intro rfl (And.intro rfl (And.intro rfl (And.intro rfl (And.intro rfl (And.intro rfl (And.intro rfl (And.intro rfl (And.intro rfl (And.intro rfl (trivial)))))))))))) (permI [] rfl) (fun _ h => nomatch h) (fun _ h => h)
        ·simp only [decide_eq_false_iff_not] at h81
         refine LJ_skip rfl rfl ?_
         refine LJ_skip rfl rfl ?_
         refine LJ_skip rfl rfl ?_
         refine LJ_skip rfl rfl ?_
         refine LJ_skip rfl rfl ?_
         refine LJ_skip rfl rfl ?_
         refine LJ_skip rfl rfl ?_
         refine LJ_skip rfl rfl ?_
         refine LJ_y rfl rfl (YJ_pickF rfl rfl) ?_
         refine LJ_nil ?_
         refine QJ_then ?_
         refine CJ_condF rfl ?_
         refine CJ_skip ?_
         refine QJ_in_normal ?_
         refine QJ_then ?_
         refine CJ_reg ?_
         refine LJ_y rfl rfl (YJ_bin rfl rfl (iop_add (by omega))) ?_
         refine LJ_y rfl rfl (YJ_move rfl) ?_
         refine LJ_nil ?_
         refine QJ_roundF (F := fun (i : Nat × Bool) => ⟨[(0, .pointer (some ⟨B, 0, none⟩)), (1, .int .i64 (n : Nat)), (5, .pointer (some ⟨b1, 0, none⟩)), (21, .agg #[.int .i64 t.n0, .int .i64 t.n1, .int .i64 t.n2]), (6, .int .i64 (k : Nat)), (8, .int .i64 (t.v ((k + 1) % 3))), (9, .int .i64 (t.v ((k + 2) % 3))), (10, .pointer (some ⟨b2, 0, none⟩)), (11, .bool i.2), (22, .int .i64 (k : Nat)), (70, .int .i64 (i.1 : Nat))], [cellsR b2 #[.int .i64 o.v0, .int .i64 o.v1, .int .i64 o.v2, .int .i64 o.n0, .int .i64 o.n1, .int .i64 o.n2, .bool o.f0, .bool o.f1, .bool o.f2] 37, cellsR b1 #[.int .i64 t.v0, .int .i64 t.v1, .int .i64 t.v2, .int .i64 t.n0, .int .i64 t.n1, .int .i64 t.n2, .bool t.f0, .bool t.f1, .bool t.f2] 37], []⟩) (I := fun (i : Nat × Bool) => i.1 ≤ 3 ∧ i.2 = ([0, 1, 2].take i.1).foldl (besF o t (n : Nat) k) false) (m := fun (i : Nat × Bool) => 3 - i.1) (i := (j, fd)) ((j + 1, fd)) (μd := []) ⟨by omega, by dsimp only; rw [b_three hj3, ← hfd]; unfold besF; rw [if_neg (fun q => h81 q.1)]⟩ (by dsimp only; omega) (And.intro rfl (And.intro rfl (And.intro rfl (And.intro rfl (And.intro rfl (And.intro rfl (And.intro rfl (And.intro rfl (And.intro rfl (And.intro rfl (And.intro rfl (trivial)))))))))))) (permI [] rfl) (fun _ h => nomatch h) (fun _ h => h)
       ·simp only [decide_eq_false_iff_not] at h71
        have hj3 : 3 = j := by omega
        subst hj3
        have hbi : besI tris t (n : Nat) k = fd := by
         unfold besI
         rw [if_neg hneg, ho]
         exact hfd.symm
        refine CJ_exit ?_
        refine QJ_then_exit ?_
        refine QJ_then_exit ?_
        refine QJ_in_exit ?_
        refine QJ_then ?_
        refine CJ_seq ?_
        refine CJ_reg ?_
        refine LJ_y rfl rfl (YJ_move rfl) ?_
        refine LJ_y rfl rfl (YJ_not rfl) ?_
        refine LJ_nil ?_
        refine QJ_then ?_
        refine CJ_cond rfl (fun h110 => ?_) (fun h110 => ?_)
        ·simp only [Bool.not_eq_true'] at h110
         refine CJ_seq ?_
         refine CJ_reg ?_
         refine LJ_y rfl rfl (YJ_assign rfl) ?_
         refine LJ_nil ?_
         refine QJ_then ?_
         refine CJ_ret ?_
         refine QJ_in_ret ?_
         refine QJ_then_ret ?_
         refine QJ_then_ret ?_
         refine QJ_in_ret ?_
         refine QJ_then_ret ?_
         refine QJ_fin (.inl rfl) (μ' := []) (μr := _) (φ' := []) (res_tmp rfl rfl) (List.Perm.refl _) (fun _ h => nomatch h) ?_
         exact ⟨congrArg Value.bool (besB_false hk3 (hbi.trans h110)).symm, rfl, rfl⟩
        ·simp only [Bool.not_eq_false'] at h110
         refine CJ_skip ?_
         refine QJ_in_normal ?_
         refine QJ_then ?_
         refine CJ_reg ?_
         refine LJ_y rfl rfl (YJ_bin rfl rfl (iop_add (by omega))) ?_
         refine LJ_y rfl rfl (YJ_move rfl) ?_
         refine LJ_nil ?_
         refine QJ_roundF (F := fun (i : Nat) => ⟨[(0, .pointer (some ⟨B, 0, none⟩)), (1, .int .i64 (n : Nat)), (5, .pointer (some ⟨b1, 0, none⟩)), (21, .agg #[.int .i64 t.n0, .int .i64 t.n1, .int .i64 t.n2]), (22, .int .i64 (i : Nat))], [cellsR b1 #[.int .i64 t.v0, .int .i64 t.v1, .int .i64 t.v2, .int .i64 t.n0, .int .i64 t.n1, .int .i64 t.n2, .bool t.f0, .bool t.f1, .bool t.f2] 37], []⟩) (I := fun (i : Nat) => i ≤ 3 ∧ ∀ q, q < i → besI tris t (n : Nat) q = true) (m := fun (i : Nat) => 3 - i) (i := k) (k + 1) (μd := [_]) ⟨by omega, fun q hq => (Nat.lt_succ_iff_lt_or_eq.1 hq).elim (hbs q) (fun e => by rw [e, hbi]; exact h110)⟩ (by omega) (And.intro rfl (And.intro rfl (And.intro rfl (And.intro rfl (And.intro rfl (trivial)))))) (permI [1] rfl) (fun _ h => nomatch h) (fun _ h => h)
    ·skip
     have hneg : ¬ (t.n k < 0 ∨ tris.length ≤ t.n k ∨ (t.fl k = true ∧ (t.v ((k + 1) % 3) < 0 ∨ t.v ((k + 2) % 3) < 0))) := by
      rintro (q | q | ⟨q, q2⟩)
      ·omega
      ·omega
      ·rw [h54] at q; cases q
     obtain ⟨o, ho⟩ := get_of_lt (tris := tris) (i := t.n k) (by omega) (by omega)
     refine LJ_skip rfl rfl ?_
     refine LJ_skip rfl rfl ?_
     refine LJ_skip rfl rfl ?_
     refine LJ_skip rfl rfl ?_
     refine LJ_skip rfl rfl ?_
     refine LJ_skip rfl rfl ?_
     refine LJ_y rfl rfl (YJ_pickF rfl rfl) ?_
     refine LJ_y rfl rfl (YJ_pickF rfl rfl) ?_
     refine LJ_nil ?_
     refine QJ_then ?_
     refine CJ_condF rfl ?_
     refine CJ_skip ?_
     refine QJ_then ?_
     refine CJ_seq ?_
     refine CJ_reg ?_
     refine LJ_y rfl rfl (YJ_move rfl) ?_
     refine LJ_y rfl rfl (YJ_nilCheck rfl) ?_
     refine LJ_y rfl rfl (YJ_fieldOwn rfl fld_57_1 rfl) ?_
     refine LJ_y rfl rfl (YJ_loadFactP (A := some ⟨B, 0, none⟩) (j := 1) rfl rfl tyi_54 m0 rfl) ?_
     refine LJ_y rfl rfl (YJ_move rfl) ?_
     refine LJ_y rfl rfl (YJ_ixFact rfl rfl elt_54 m2 (by decide) (by omega) (by omega) (by omega)) ?_
     refine LJ_y rfl rfl (YJ_loadFactN (vs := [.int .i64 o.v0, .int .i64 o.v1, .int .i64 o.v2, .int .i64 o.n0, .int .i64 o.n1, .int .i64 o.n2, .bool o.f0, .bool o.f1, .bool o.f2]) (xs := trCells tris) rfl tyi_37 m2 (trCells_row ho) rfl) ?_
     refine LJ_alloc (cs := #[_, _, _, _, _, _, _, _, _]) rfl rfl zer_37 rfl ?_
     intro b3
     refine LJ_store (cs' := #[_, _, _, _, _, _, _, _, _]) (μ' := [_, _]) 0 rfl rfl rfl rfl tyi_37 rfl (Nat.le_of_ble_eq_true rfl) rfl (wr_all rfl) rfl ?_
     refine LJ_y rfl rfl (YJ_assign rfl) ?_
     refine LJ_nil ?_
     refine QJ_then ?_
     refine CJ_seq ?_
     refine CJ_seq ?_
     refine CJ_reg ?_
     refine LJ_y rfl rfl (YJ_move rfl) ?_
     refine LJ_nil ?_
     refine QJ_then ?_
     refine CJ_block ?_
     refine CJ_loopF (F := fun (i : Nat × Bool) => ⟨[(0, .pointer (some ⟨B, 0, none⟩)), (1, .int .i64 (n : Nat)), (5, .pointer (some ⟨b1, 0, none⟩)), (21, .agg #[.int .i64 t.n0, .int .i64 t.n1, .int .i64 t.n2]), (6, .int .i64 (k : Nat)), (8, .int .i64 (t.v ((k + 1) % 3))), (9, .int .i64 (t.v ((k + 2) % 3))), (10, .pointer (some ⟨b3, 0, none⟩)), (11, .bool i.2), (22, .int .i64 (k : Nat)), (70, .int .i64 (i.1 : Nat))], [cellsR b3 #[.int .i64 o.v0, .int .i64 o.v1, .int .i64 o.v2, .int .i64 o.n0, .int .i64 o.n1, .int .i64 o.n2, .bool o.f0, .bool o.f1, .bool o.f2] 37, cellsR b1 #[.int .i64 t.v0, .int .i64 t.v1, .int .i64 t.v2, .int .i64 t.n0, .int .i64 t.n1, .int .i64 t.n2, .bool t.f0, .bool t.f1, .bool t.f2] 37], []⟩) (I := fun (i : Nat × Bool) => i.1 ≤ 3 ∧ i.2 = ([0, 1, 2].take i.1).foldl (besF o t (n : Nat) k) false) (m := fun (i : Nat × Bool) => 3 - i.1) (0, false) (μr := []) ⟨Nat.zero_le _, rfl⟩ (And.intro rfl (And.intro rfl (And.intro rfl (And.intro rfl (And.intro rfl (And.intro rfl (And.intro rfl (And.intro rfl (And.intro rfl (And.intro rfl (And.intro rfl (trivial)))))))))))) (permI [] rfl) (fun _ h => nomatch h) ?_
     rintro ⟨j, fd⟩ ⟨hj, hfd⟩
     try dsimp only at hj
     try dsimp only at hfd
     show CJ _ _ _ [(0, .pointer (some ⟨B, 0, none⟩)), (1, .int .i64 (n : Nat)), (5, .pointer (some ⟨b1, 0, none⟩)), (21, .agg #[.int .i64 t.n0, .int .i64 t.n1, .int .i64 t.n2]), (6, .int .i64 (k : Nat)), (8, .int .i64 (t.v ((k + 1) % 3))), (9, .int .i64 (t.v ((k + 2) % 3))), (10, .pointer (some ⟨b3, 0, none⟩)), (11, .bool fd), (22, .int .i64 (k : Nat)), (70, .int .i64 (j : Nat))] (cellsR b3 #[.int .i64 o.v0, .int .i64 o.v1, .int .i64 o.v2, .int .i64 o.n0, .int .i64 o.n1, .int .i64 o.n2, .bool o.f0, .bool o.f1, .bool o.f2] 37 :: cellsR b1 #[.int .i64 t.v0, .int .i64 t.v1, .int .i64 t.v2, .int .i64 t.n0, .int .i64 t.n1, .int .i64 t.n2, .bool t.f0, .bool t.f1, .bool t.f2] 37 :: _) _
     refine CJ_seq ?_
     refine CJ_reg ?_
     refine LJ_y rfl rfl (YJ_bin rfl rfl rfl) ?_
     refine LJ_nil ?_
     refine QJ_then ?_
     refine CJ_seq ?_
     refine CJ_cond rfl (fun h71 => ?_) (fun h71 => ?_)
     ·simp only [decide_eq_true_eq] at h71
      have hj3 : j < 3 := by omega
      refine CJ_skip ?_
      refine QJ_then ?_
      refine CJ_seq ?_
      refine CJ_block ?_
      refine CJ_seq ?_
      refine CJ_reg ?_
      refine LJ_y rfl rfl (YJ_move rfl) ?_
      refine LJ_y rfl rfl (YJ_assign rfl) ?_
      refine LJ_nil ?_
      refine QJ_then ?_
      refine CJ_seq ?_
      refine CJ_reg ?_
      refine LJ_y rfl rfl (YJ_move rfl) ?_
      refine LJ_y rfl rfl (YJ_bin rfl rfl (iop_add (by omega))) ?_
      refine LJ_y rfl rfl (YJ_rem rfl rfl (by first | decide | omega)) ?_
      refine LJ_val (v := .int .i64 (((j + 1) % 3 : Nat) : Int)) (congrArg (Value.int .i64) (tm3 (j := 1) hj3 (by decide))) ?_
      refine LJ_y rfl rfl (YJ_fieldOwn rfl fld_37_0 rfl) ?_
      refine LJ_y rfl rfl (YJ_ixArr rfl rfl arrt_34 (by omega) (by omega) rfl) ?_
      refine LJ_y rfl rfl (YJ_load1 rfl tyi_3 m0 (v_get (t := o) (Nat.mod_lt (j + 1) (by decide)))) ?_
      refine LJ_y rfl rfl (YJ_move rfl) ?_
      refine LJ_y rfl rfl (YJ_bin rfl rfl rfl) ?_
      refine LJ_y rfl rfl (YJ_move rfl) ?_
      refine LJ_boolC (fun h81 => ?_) (fun h81 => ?_)
      ·simp only [decide_eq_true_eq] at h81
       refine LJ_y rfl rfl (YJ_move rfl) ?_
       refine LJ_y rfl rfl (YJ_bin rfl rfl (iop_add (by omega))) ?_
       refine LJ_y rfl rfl (YJ_rem rfl rfl (by first | decide | omega)) ?_
       refine LJ_val (v := .int .i64 (((j + 2) % 3 : Nat) : Int)) (congrArg (Value.int .i64) (tm3 (j := 2) hj3 (by decide))) ?_
       refine LJ_y rfl rfl (YJ_fieldOwn rfl fld_37_0 rfl) ?_
       refine LJ_y rfl rfl (YJ_ixArr rfl rfl arrt_34 (by omega) (by omega) rfl) ?_
       refine LJ_y rfl rfl (YJ_load1 rfl tyi_3 m0 (v_get (t := o) (Nat.mod_lt (j + 2) (by decide)))) ?_
       refine LJ_y rfl rfl (YJ_move rfl) ?_
       refine LJ_y rfl rfl (YJ_bin rfl rfl rfl) ?_
       refine LJ_y rfl rfl (YJ_pickT rfl rfl) ?_
       refine LJ_nil ?_
       refine QJ_then ?_
       refine CJ_cond rfl (fun h90 => ?_) (fun h90 => ?_)
       ·simp only [decide_eq_true_eq] at h90
        refine CJ_regD mix (by kernel_rfl) (fun _ _ _ _ _ h => h) _ _ (fun _ h => h) (fun _ h => h) ?_
        refine AJ_y 0 rfl (by kernel_rfl) (by kernel_rfl) rfl rfl (YJ_move rfl) ?_
        refine AJ_y 1 rfl (by kernel_rfl) (by kernel_rfl) rfl rfl (YJ_fieldOwn rfl fld_37_1 rfl) ?_
        refine AJ_y 2 rfl (by kernel_rfl) (by kernel_rfl) rfl rfl (YJ_ixArr rfl rfl arrt_34 (by omega) (by omega) rfl) ?_
        refine AJ_y 3 rfl (by kernel_rfl) (by kernel_rfl) rfl rfl (YJ_load1 rfl tyi_3 m0 (na_get (t := o) hj3)) ?_
        refine AJ_y 4 rfl (by kernel_rfl) (by kernel_rfl) rfl rfl (YJ_move rfl) ?_
        refine AJ_y 5 rfl (by kernel_rfl) (by kernel_rfl) rfl rfl (YJ_bin rfl rfl rfl) ?_
        refine AJ_y 6 rfl (by kernel_rfl) (by kernel_rfl) rfl rfl (YJ_move rfl) ?_
        refine AJ_boolC (fun h97 => ?_) (fun h97 => ?_)
        ·simp only [decide_eq_true_eq] at h97
         refine AJ_y 7 rfl (by kernel_rfl) (by kernel_rfl) rfl rfl (YJ_move rfl) ?_
         refine AJ_y 8 rfl (by kernel_rfl) (by kernel_rfl) rfl rfl (YJ_fieldOwn rfl fld_37_2 rfl) ?_
         refine AJ_y 9 rfl (by kernel_rfl) (by kernel_rfl) rfl rfl (YJ_ixArr rfl rfl arrt_35 (by omega) (by omega) rfl) ?_
         refine AJ_y 10 rfl (by kernel_rfl) (by kernel_rfl) rfl rfl (YJ_load1 rfl tyi_4 m0 (fa_get (t := o) hj3)) ?_
         refine AJ_y 11 rfl (by kernel_rfl) (by kernel_rfl) rfl rfl (YJ_move rfl) ?_
         refine AJ_y 12 rfl (by kernel_rfl) (by kernel_rfl) rfl rfl (YJ_fieldOwn rfl fld_37_2 rfl) ?_
         refine AJ_y 13 rfl (by kernel_rfl) (by kernel_rfl) rfl rfl (YJ_ixArr rfl rfl arrt_35 (by omega) (by omega) rfl) ?_
         refine AJ_y 14 rfl (by kernel_rfl) (by kernel_rfl) rfl rfl (YJ_load1 rfl tyi_4 m1 (fa_get (t := t) hk3)) ?_
         refine AJ_y 15 rfl (by kernel_rfl) (by kernel_rfl) rfl rfl (YJ_eqb rfl rfl ubool_4) ?_
         refine AJ_y 16 rfl (by kernel_rfl) (by kernel_rfl) rfl rfl (YJ_pickT rfl rfl) ?_
         refine AJ_y 17 rfl (by kernel_rfl) (by kernel_rfl) rfl rfl (YJ_assign rfl) ?_
         refine AJ_done (by kernel_rfl) ?_
         refine QJ_in_normal ?_
         refine QJ_then ?_
         refine CJ_reg ?_
         refine LJ_y rfl rfl (YJ_bin rfl rfl (iop_add (by omega))) ?_
         refine LJ_y rfl rfl (YJ_move rfl) ?_
         refine LJ_nil ?_
         refine QJ_roundF (F := fun (i : Nat × Bool) => ⟨[(0, .pointer (some ⟨B, 0, none⟩)), (1, .int .i64 (n : Nat)), (5, .pointer (some ⟨b1, 0, none⟩)), (21, .agg #[.int .i64 t.n0, .int .i64 t.n1, .int .i64 t.n2]), (6, .int .i64 (k : Nat)), (8, .int .i64 (t.v ((k + 1) % 3))), (9, .int .i64 (t.v ((k + 2) % 3))), (10, .pointer (some ⟨b3, 0, none⟩)), (11, .bool i.2), (22, .int .i64 (k : Nat)), (70, .int .i64 (i.1 : Nat))], [cellsR b3 #[.int .i64 o.v0, .int .i64 o.v1, .int .i64 o.v2, .int .i64 o.n0, .int .i64 o.n1, .int .i64 o.n2, .bool o.f0, .bool o.f1, .bool o.f2] 37, cellsR b1 #[.int .i64 t.v0, .int .i64 t.v1, .int .i64 t.v2, .int .i64 t.n0, .int .i64 t.n1, .int .i64 t.n2, .bool t.f0, .bool t.f1, .bool t.f2] 37], []⟩) (I := fun (i : Nat × Bool) => i.1 ≤ 3 ∧ i.2 = ([0, 1, 2].take i.1).foldl (besF o t (n : Nat) k) false) (m := fun (i : Nat × Bool) => 3 - i.1) (i := (j, fd)) ((j + 1, (o.fl j == t.fl k))) (μd := []) ⟨by omega, by dsimp only; rw [b_three hj3]; unfold besF; rw [if_pos ⟨h81, h90⟩, decide_eq_true h97, Bool.true_and]⟩ (by dsimp only; omega) (And.intro rfl (And.intro rfl (And.intro rfl (And.intro rfl (And.intro rfl (And.intro rfl (And.intro rfl (And.intro rfl (And.intro rfl (And.intro rfl (And.intro rfl (trivial)))))))))))) (permI [] rfl) (fun _ h => nomatch h) (fun _ h => h)
        ·simp only [decide_eq_false_iff_not] at h97
         refine AJ_skip 7 rfl (by kernel_rfl) (by kernel_rfl) rfl rfl ?_
         refine AJ_skip 8 rfl (by kernel_rfl) (by kernel_rfl) rfl rfl ?_
         refine AJ_skip 9 rfl (by kernel_rfl) (by kernel_rfl) rfl rfl ?_
         refine AJ_skip 10 rfl (by kernel_rfl) (by kernel_rfl) rfl rfl ?_
         refine AJ_skip 11 rfl (by kernel_rfl) (by kernel_rfl) rfl rfl ?_
         refine AJ_skip 12 rfl (by kernel_rfl) (by kernel_rfl) rfl rfl ?_
         refine AJ_skip 13 rfl (by kernel_rfl) (by kernel_rfl) rfl rfl ?_
         refine AJ_skip 14 rfl (by kernel_rfl) (by kernel_rfl) rfl rfl ?_
         refine AJ_skip 15 rfl (by kernel_rfl) (by kernel_rfl) rfl rfl ?_
         refine AJ_y 16 rfl (by kernel_rfl) (by kernel_rfl) rfl rfl (YJ_pickF rfl rfl) ?_
         refine AJ_y 17 rfl (by kernel_rfl) (by kernel_rfl) rfl rfl (YJ_assign rfl) ?_
         refine AJ_done (by kernel_rfl) ?_
         refine QJ_in_normal ?_
         refine QJ_then ?_
         refine CJ_reg ?_
         refine LJ_y rfl rfl (YJ_bin rfl rfl (iop_add (by omega))) ?_
         refine LJ_y rfl rfl (YJ_move rfl) ?_
         refine LJ_nil ?_
         refine QJ_roundF (F := fun (i : Nat × Bool) => ⟨[(0, .pointer (some ⟨B, 0, none⟩)), (1, .int .i64 (n : Nat)), (5, .pointer (some ⟨b1, 0, none⟩)), (21, .agg #[.int .i64 t.n0, .int .i64 t.n1, .int .i64 t.n2]), (6, .int .i64 (k : Nat)), (8, .int .i64 (t.v ((k + 1) % 3))), (9, .int .i64 (t.v ((k + 2) % 3))), (10, .pointer (some ⟨b3, 0, none⟩)), (11, .bool i.2), (22, .int .i64 (k : Nat)), (70, .int .i64 (i.1 : Nat))], [cellsR b3 #[.int .i64 o.v0, .int .i64 o.v1, .int .i64 o.v2, .int .i64 o.n0, .int .i64 o.n1, .int .i64 o.n2, .bool o.f0, .bool o.f1, .bool o.f2] 37, cellsR b1 #[.int .i64 t.v0, .int .i64 t.v1, .int .i64 t.v2, .int .i64 t.n0, .int .i64 t.n1, .int .i64 t.n2, .bool t.f0, .bool t.f1, .bool t.f2] 37], []⟩) (I := fun (i : Nat × Bool) => i.1 ≤ 3 ∧ i.2 = ([0, 1, 2].take i.1).foldl (besF o t (n : Nat) k) false) (m := fun (i : Nat × Bool) => 3 - i.1) (i := (j, fd)) ((j + 1, false)) (μd := []) ⟨by omega, by dsimp only; rw [b_three hj3]; unfold besF; rw [if_pos ⟨h81, h90⟩, decide_eq_false h97, Bool.false_and]⟩ (by dsimp only; omega) (And.intro rfl (And.intro rfl (And.intro rfl (And.intro rfl (And.intro rfl (And.intro rfl (And.intro rfl (And.intro rfl (And.intro rfl (And.intro rfl (And.intro rfl (trivial)))))))))))) (permI [] rfl) (fun _ h => nomatch h) (fun _ h => h)
       ·simp only [decide_eq_false_iff_not] at h90
        refine CJ_skip ?_
        refine QJ_in_normal ?_
        refine QJ_then ?_
        refine CJ_reg ?_
        refine LJ_y rfl rfl (YJ_bin rfl rfl (iop_add (by omega))) ?_
        refine LJ_y rfl rfl (YJ_move rfl) ?_
        refine LJ_nil ?_
        refine QJ_roundF (F := fun (i : Nat × Bool) => ⟨[(0, .pointer (some ⟨B, 0, none⟩)), (1, .int .i64 (n : Nat)), (5, .pointer (some ⟨b1, 0, none⟩)), (21, .agg #[.int .i64 t.n0, .int .i64 t.n1, .int .i64 t.n2]), (6, .int .i64 (k : Nat)), (8, .int .i64 (t.v ((k + 1) % 3))), (9, .int .i64 (t.v ((k + 2) % 3))), (10, .pointer (some ⟨b3, 0, none⟩)), (11, .bool i.2), (22, .int .i64 (k : Nat)), (70, .int .i64 (i.1 : Nat))], [cellsR b3 #[.int .i64 o.v0, .int .i64 o.v1, .int .i64 o.v2, .int .i64 o.n0, .int .i64 o.n1, .int .i64 o.n2, .bool o.f0, .bool o.f1, .bool o.f2] 37, cellsR b1 #[.int .i64 t.v0, .int .i64 t.v1, .int .i64 t.v2, .int .i64 t.n0, .int .i64 t.n1, .int .i64 t.n2, .bool t.f0, .bool t.f1, .bool t.f2] 37], []⟩) (I := fun (i : Nat × Bool) => i.1 ≤ 3 ∧ i.2 = ([0, 1, 2].take i.1).foldl (besF o t (n : Nat) k) false) (m := fun (i : Nat × Bool) => 3 - i.1) (i := (j, fd)) ((j + 1, fd)) (μd := []) ⟨by omega, by dsimp only; rw [b_three hj3, ← hfd]; unfold besF; rw [if_neg (fun q => h90 q.2)]⟩ (by dsimp only; omega) (And.intro rfl (And.intro rfl (And.intro rfl (And.intro rfl (And.intro rfl (And.intro rfl (And.intro rfl (And.intro rfl (And.intro rfl (And.intro rfl (And.intro rfl (trivial)))))))))))) (permI [] rfl) (fun _ h => nomatch h) (fun _ h => h)
      ·simp only [decide_eq_false_iff_not] at h81
       refine LJ_skip rfl rfl ?_
       refine LJ_skip rfl rfl ?_
       refine LJ_skip rfl rfl ?_
       refine LJ_skip rfl rfl ?_
       refine LJ_skip rfl rfl ?_
       refine LJ_skip rfl rfl ?_
       refine LJ_skip rfl rfl ?_
       refine LJ_skip rfl rfl ?_
       refine LJ_y rfl rfl (YJ_pickF rfl rfl) ?_
       refine LJ_nil ?_
       refine QJ_then ?_
       refine CJ_condF rfl ?_
       refine CJ_skip ?_
       refine QJ_in_normal ?_
       refine QJ_then ?_
       refine CJ_reg ?_
       refine LJ_y rfl rfl (YJ_bin rfl rfl (iop_add (by omega))) ?_
       refine LJ_y rfl rfl (YJ_move rfl) ?_
       refine LJ_nil ?_
       refine QJ_roundF (F := fun (i : Nat × Bool) => ⟨[(0, .pointer (some ⟨B, 0, none⟩)), (1, .int .i64 (n : Nat)), (5, .pointer (some ⟨b1, 0, none⟩)), (21, .agg #[.int .i64 t.n0, .int .i64 t.n1, .int .i64 t.n2]), (6, .int .i64 (k : Nat)), (8, .int .i64 (t.v ((k + 1) % 3))), (9, .int .i64 (t.v ((k + 2) % 3))), (10, .pointer (some ⟨b3, 0, none⟩)), (11, .bool i.2), (22, .int .i64 (k : Nat)), (70, .int .i64 (i.1 : Nat))], [cellsR b3 #[.int .i64 o.v0, .int .i64 o.v1, .int .i64 o.v2, .int .i64 o.n0, .int .i64 o.n1, .int .i64 o.n2, .bool o.f0, .bool o.f1, .bool o.f2] 37, cellsR b1 #[.int .i64 t.v0, .int .i64 t.v1, .int .i64 t.v2, .int .i64 t.n0, .int .i64 t.n1, .int .i64 t.n2, .bool t.f0, .bool t.f1, .bool t.f2] 37], []⟩) (I := fun (i : Nat × Bool) => i.1 ≤ 3 ∧ i.2 = ([0, 1, 2].take i.1).foldl (besF o t (n : Nat) k) false) (m := fun (i : Nat × Bool) => 3 - i.1) (i := (j, fd)) ((j + 1, fd)) (μd := []) ⟨by omega, by dsimp only; rw [b_three hj3, ← hfd]; unfold besF; rw [if_neg (fun q => h81 q.1)]⟩ (by dsimp only; omega) (And.intro rfl (And.intro rfl (And.intro rfl (And.intro rfl (And.intro rfl (And.intro rfl (And.intro rfl (And.intro rfl (And.intro rfl (And.intro rfl (And.intro rfl (trivial)))))))))))) (permI [] rfl) (fun _ h => nomatch h) (fun _ h => h)
     ·simp only [decide_eq_false_iff_not] at h71
      have hj3 : 3 = j := by omega
      subst hj3
      have hbi : besI tris t (n : Nat) k = fd := by
       unfold besI
       rw [if_neg hneg, ho]
       exact hfd.symm
      refine CJ_exit ?_
      refine QJ_then_exit ?_
      refine QJ_then_exit ?_
      refine QJ_in_exit ?_
      refine QJ_then ?_
      refine CJ_seq ?_
      refine CJ_reg ?_
      refine LJ_y rfl rfl (YJ_move rfl) ?_
      refine LJ_y rfl rfl (YJ_not rfl) ?_
      refine LJ_nil ?_
      refine QJ_then ?_
      refine CJ_cond rfl (fun h110 => ?_) (fun h110 => ?_)
      ·simp only [Bool.not_eq_true'] at h110
       refine CJ_seq ?_
       refine CJ_reg ?_
       refine LJ_y rfl rfl (YJ_assign rfl) ?_
       refine LJ_nil ?_
       refine QJ_then ?_
       refine CJ_ret ?_
       refine QJ_in_ret ?_
       refine QJ_then_ret ?_
       refine QJ_then_ret ?_
       refine QJ_in_ret ?_
       refine QJ_then_ret ?_
       refine QJ_fin (.inl rfl) (μ' := []) (μr := _) (φ' := []) (res_tmp rfl rfl) (List.Perm.refl _) (fun _ h => nomatch h) ?_
       exact ⟨congrArg Value.bool (besB_false hk3 (hbi.trans h110)).symm, rfl, rfl⟩
      ·simp only [Bool.not_eq_false'] at h110
       refine CJ_skip ?_
       refine QJ_in_normal ?_
       refine QJ_then ?_
       refine CJ_reg ?_
       refine LJ_y rfl rfl (YJ_bin rfl rfl (iop_add (by omega))) ?_
       refine LJ_y rfl rfl (YJ_move rfl) ?_
       refine LJ_nil ?_
       refine QJ_roundF (F := fun (i : Nat) => ⟨[(0, .pointer (some ⟨B, 0, none⟩)), (1, .int .i64 (n : Nat)), (5, .pointer (some ⟨b1, 0, none⟩)), (21, .agg #[.int .i64 t.n0, .int .i64 t.n1, .int .i64 t.n2]), (22, .int .i64 (i : Nat))], [cellsR b1 #[.int .i64 t.v0, .int .i64 t.v1, .int .i64 t.v2, .int .i64 t.n0, .int .i64 t.n1, .int .i64 t.n2, .bool t.f0, .bool t.f1, .bool t.f2] 37], []⟩) (I := fun (i : Nat) => i ≤ 3 ∧ ∀ q, q < i → besI tris t (n : Nat) q = true) (m := fun (i : Nat) => 3 - i) (i := k) (k + 1) (μd := [_]) ⟨by omega, fun q hq => (Nat.lt_succ_iff_lt_or_eq.1 hq).elim (hbs q) (fun e => by rw [e, hbi]; exact h110)⟩ (by omega) (And.intro rfl (And.intro rfl (And.intro rfl (And.intro rfl (And.intro rfl (trivial)))))) (permI [1] rfl) (fun _ h => nomatch h) (fun _ h => h)
 ·simp only [decide_eq_false_iff_not] at h23
  have hk3 : 3 = k := by omega
  subst hk3
  refine CJ_exit ?_
  refine QJ_then_exit ?_
  refine QJ_then_exit ?_
  refine QJ_in_exit ?_
  refine QJ_then ?_
  refine CJ_seq ?_
  refine CJ_reg ?_
  refine LJ_y rfl rfl (YJ_assign rfl) ?_
  refine LJ_nil ?_
  refine QJ_then ?_
  refine CJ_ret ?_
  refine QJ_fin (.inl rfl) (μ' := []) (μr := _) (φ' := []) (res_tmp rfl rfl) (List.Perm.refl _) (fun _ h => nomatch h) ?_
  exact ⟨congrArg Value.bool (show true = besB tris t (n : Nat) from by unfold besB; rw [hbs 0 (by decide), hbs 1 (by decide), hbs 2 (by decide)]; rfl), rfl, rfl⟩
end Go.Proofs.Ytbanlhlggkdanaa
namespace Go.Proofs.Ytbanlhlggkdanaa
open Go.RowKit
theorem ent_68 : Enter Try.prog 68 = true := by kernel_rfl
theorem ent_87 : Enter Try.prog 87 = true := by kernel_rfl
theorem index_c {b n : Nat} {xs : List Int} {x : Int} (hn : xs.length = n) (h0 : 0 < n) (h1 : n ≤ 1073741824) : Tri Try.prog 72 [.slice (some ⟨b, 0, none⟩) n n, .int .i64 x] [] [sliceR 1 (some ⟨b, 0, none⟩) n (Iv xs)] (Ret0 (.int .i64 (Lib.idxOf xs x))) := by
 refine Tri_of_callsF (by kernel_rfl) fun w T hF => ?_
 obtain ⟨S, hp, _⟩ := hF _ (.head _)
 have := Try.slices_Index_int b 0 n n xs x w (by omega) (by omega) (fun j hj => by
  have := sliceR.cell hp (j := j) (v := .int .i64 (xs.getD j 0)) (by rw [Iv, List.getElem?_map, List.getElem?_eq_getElem hj, List.getD_eq_getElem?_getD, List.getElem?_eq_getElem hj]; rfl)
  rw [show (adr (some ⟨b, 0, none⟩) : Addr) = ⟨b, 0, none⟩ from rfl, Addr.add_lit] at this
  exact this)
 rw [List.take_of_length_le (by omega)] at this
 exact this
def plc (t : Tr) (v : Int) : Int := Lib.idxOf [t.v0, t.v1, t.v2] v
theorem trCells_n {l : List Tr} {i k : Nat} {t : Tr} (h : l[i]? = some t) (hk : k < 3) : (trCells l)[i * 9 + (3 + k)]? = some (.int .i64 (t.n k)) := by
 rw [trCells_get h (by omega)]
 match k, hk with
 | 0, _ => rfl
 | 1, _ => rfl
 | 2, _ => rfl
def nxt (tris : List Tr) (v x : Int) : Int := match tris[x.toNat]? with
 | some t => t.n (((plc t v).toNat + 1) % 3)
 | none => -1
def itr (tris : List Tr) (v : Int) : Nat → Int → Int
 | 0, x => x
 | n + 1, x => nxt tris v (itr tris v n x)
structure RndOk (tris : List Tr) (v fr : Int) (n : Nat) : Prop where
 one : 1 ≤ n
 hi : n ≤ tris.length + 1
 no : ∀ j, 0 < j → j < n → itr tris v j fr ≠ fr
 fin : itr tris v n fr = fr ∨ tris.length < n
set_option maxRecDepth 100000 in
set_option maxHeartbeats 1000000 in
theorem place_c {t : Tr} {v : Int} : Tri Try.prog 68 [.agg t.cells.toArray, .int .i64 v] [] [] (Ret0 (.int .i64 (plc t v))) := by
 refine Tri_of (N := 9) Try.func68 rfl ent_68 rfl rfl ?_
 intro w0 S0 T0
 show CJ _ _ _ [(0, _), (1, _)] _ _
 refine CJ_seq ?_
 refine CJ_reg ?_
 refine LJ_box (cs := #[_, _, _, _, _, _, _, _, _]) rfl rfl rfl rfl ?_
 intro b1
 refine LJ_freeze ?_
 refine LJ_y rfl rfl (YJ_assign rfl) ?_
 refine LJ_nil ?_
 refine QJ_then ?_
 refine CJ_seq ?_
 refine CJ_reg ?_
 refine LJ_addF (r' := sliceR 1 (some ⟨b1, 0, none⟩) 3 (Iv [t.v0, t.v1, t.v2])) (.head _) (fun w S h => cellsR_head (n := 3) rfl (by decide) rfl w S h) ?_
 refine LJ_y rfl rfl (YJ_fieldOwn rfl fld_37_0 rfl) ?_
 refine LJ_y rfl rfl (YJ_sliceArr rfl arrt_34) ?_
 refine LJ_y rfl rfl (YJ_move rfl) ?_
 refine LJ_call0 rfl rfl rfl rfl rfl (index_c (xs := [t.v0, t.v1, t.v2]) rfl (by decide) (by decide)) (AllIn.sub (And.intro m0 trivial)) ?_
 refine LJ_y rfl rfl (YJ_assign rfl) ?_
 refine LJ_nil ?_
 refine QJ_then ?_
 refine CJ_ret ?_
 refine QJ_fin (.inl rfl) (μ' := []) (μr := _) (φ' := []) (res_tmp rfl rfl) (List.Perm.refl _) (fun _ h => nomatch h) ?_
 exact ⟨rfl, rfl, rfl⟩
set_option maxRecDepth 100000 in
set_option maxHeartbeats 4000000 in
theorem round_c {B : Nat} {h : Mh} {pts : List (Int × Int)} {tris : List Tr} {v fr : Int} {S : Int → Prop} (hS : ∀ x, S x → 0 ≤ x ∧ ∃ (t : Tr) (p : Nat), tris[x.toNat]? = some t ∧ plc t v = p ∧ p < 3 ∧ S (t.n ((p + 1) % 3))) (hf : S fr) (hlen : tris.length ≤ 1073741824) : Tri Try.prog 87 [.pointer (some ⟨B, 0, none⟩), .int .i64 v, .int .i64 fr] [] (meshFs B h pts tris) (RetX (fun n : Nat => RndOk tris v fr n) (fun n => .int .i64 (n : Nat)) (fun _ => []) (fun _ => [])) := by
 refine Tri_of (N := 47) Try.func87 rfl ent_87 rfl rfl ?_
 intro w0 S0 T0
 show CJ _ _ _ [(0, _), (1, _), (2, _)] _ _
 refine CJ_seq ?_
 refine CJ_reg ?_
 refine LJ_y rfl rfl (YJ_assign rfl) ?_
 refine LJ_nil ?_
 refine QJ_then ?_
 refine CJ_seq ?_
 refine CJ_reg ?_
 refine LJ_y rfl rfl (YJ_assign rfl) ?_
 refine LJ_nil ?_
 refine QJ_then ?_
 refine CJ_seq ?_
 refine CJ_reg ?_
 refine LJ_y rfl rfl (YJ_move rfl) ?_
 refine LJ_y rfl rfl (YJ_assign rfl) ?_
 refine LJ_nil ?_
 refine QJ_then ?_
 refine CJ_block ?_
 refine CJ_loopF (F := fun (i : Int × Nat) => ⟨[(0, .pointer (some ⟨B, 0, none⟩)), (1, .int .i64 v), (2, .int .i64 fr), (7, .int .i64 (i.2 : Nat)), (8, .int .i64 i.1)], [], []⟩) (I := fun (i : Int × Nat) => i.1 = itr tris v i.2 fr ∧ S i.1 ∧ i.2 ≤ tris.length ∧ ∀ j, 0 < j → j ≤ i.2 → itr tris v j fr ≠ fr) (m := fun (i : Int × Nat) => tris.length + 1 - i.2) (fr, 0) (μr := []) ⟨rfl, hf, Nat.zero_le _, fun j h0 h1 => absurd h1 (by dsimp only; omega)⟩ (And.intro rfl (And.intro rfl (And.intro rfl (And.intro rfl (And.intro rfl (trivial)))))) (permI [] rfl) (fun _ h => nomatch h) ?_
 rintro ⟨x, n⟩ ⟨hx, hSx, hn, hno⟩
 try dsimp only at hx
 try dsimp only at hSx
 try dsimp only at hn
 try dsimp only at hno
 show CJ _ _ _ [(0, .pointer (some ⟨B, 0, none⟩)), (1, .int .i64 v), (2, .int .i64 fr), (7, .int .i64 (n : Nat)), (8, .int .i64 x)] (_) _
 obtain ⟨hx0, t, p, ht, hpl, hp3, hSn⟩ := hS x hSx
 have hxl := (List.getElem?_eq_some_iff.1 ht).1
 have hit : itr tris v (n + 1) fr = t.n ((p + 1) % 3) := by
  show nxt tris v (itr tris v n fr) = _
  rw [← hx]
  unfold nxt
  rw [ht]
  dsimp only
  rw [hpl]
  rfl
 refine CJ_block ?_
 refine CJ_seq ?_
 refine CJ_reg ?_
 refine LJ_y rfl rfl (YJ_move rfl) ?_
 refine LJ_y rfl rfl (YJ_nilCheck rfl) ?_
 refine LJ_y rfl rfl (YJ_fieldOwn rfl fld_57_1 rfl) ?_
 refine LJ_y rfl rfl (YJ_loadFactP (A := some ⟨B, 0, none⟩) (j := 1) rfl rfl tyi_54 m0 rfl) ?_
 refine LJ_y rfl rfl (YJ_move rfl) ?_
 refine LJ_y rfl rfl (YJ_ixFact rfl rfl elt_54 m2 (by decide) (by omega) (by omega) (by omega)) ?_
 refine LJ_y rfl rfl (YJ_loadFactN (vs := [.int .i64 t.v0, .int .i64 t.v1, .int .i64 t.v2, .int .i64 t.n0, .int .i64 t.n1, .int .i64 t.n2, .bool t.f0, .bool t.f1, .bool t.f2]) (xs := trCells tris) rfl tyi_37 m2 (trCells_row ht) rfl) ?_
 refine LJ_y rfl rfl (YJ_move rfl) ?_
 refine LJ_call0 rfl rfl rfl rfl rfl (place_c (t := t) (v := v)) (fun _ h => nomatch h) ?_
 refine LJ_val (v := .int .i64 (p : Nat)) (congrArg (Value.int .i64) hpl) ?_
 refine LJ_y rfl rfl (YJ_assign rfl) ?_
 refine LJ_nil ?_
 refine QJ_then ?_
 refine CJ_seq ?_
 refine CJ_reg ?_
 refine LJ_y rfl rfl (YJ_move rfl) ?_
 refine LJ_y rfl rfl (YJ_bin rfl rfl (iop_add (by omega))) ?_
 refine LJ_y rfl rfl (YJ_assign rfl) ?_
 refine LJ_nil ?_
 refine QJ_then ?_
 refine CJ_seq ?_
 refine CJ_reg ?_
 refine LJ_y rfl rfl (YJ_move rfl) ?_
 refine LJ_y rfl rfl (YJ_nilCheck rfl) ?_
 refine LJ_y rfl rfl (YJ_fieldOwn rfl fld_57_1 rfl) ?_
 refine LJ_y rfl rfl (YJ_loadFactP (A := some ⟨B, 0, none⟩) (j := 1) rfl rfl tyi_54 m0 rfl) ?_
 refine LJ_y rfl rfl (YJ_move rfl) ?_
 refine LJ_y rfl rfl (YJ_move rfl) ?_
 refine LJ_y rfl rfl (YJ_bin rfl rfl (iop_add (by omega))) ?_
 refine LJ_y rfl rfl (YJ_rem rfl rfl (by first | decide | omega)) ?_
 refine LJ_val (v := .int .i64 (((p + 1) % 3 : Nat) : Int)) (congrArg (Value.int .i64) (tm3 (j := 1) hp3 (by decide))) ?_
 refine LJ_y rfl rfl (YJ_ixFact rfl rfl elt_54 m2 (by decide) (by omega) (by omega) (by omega)) ?_
 refine LJ_y rfl rfl (YJ_fieldAddr rfl fld_37_1) ?_
 refine LJ_y rfl rfl (YJ_ixArrP rfl rfl arrt_34 (by omega) (by omega)) ?_
 refine LJ_y rfl rfl (YJ_loadFactP (A := h.T) (j := x.toNat * 9 + (3 + (p + 1) % 3)) rfl (by rw [Addr.add_add, Addr.add_add]; congr 1; omega) tyi_3 m2 (trCells_n ht (Nat.mod_lt _ (by decide)))) ?_
 refine LJ_y rfl rfl (YJ_assign rfl) ?_
 refine LJ_nil ?_
 refine QJ_then ?_
 refine CJ_seq ?_
 refine CJ_reg ?_
 refine LJ_y rfl rfl (YJ_move rfl) ?_
 refine LJ_y rfl rfl (YJ_move rfl) ?_
 refine LJ_y rfl rfl (YJ_bin rfl rfl rfl) ?_
 refine LJ_y rfl rfl (YJ_move rfl) ?_
 refine LJ_boolC (fun h37 => ?_) (fun h37 => ?_)
 ·simp only [decide_eq_true_eq] at h37
  refine LJ_skip rfl rfl ?_
  refine LJ_skip rfl rfl ?_
  refine LJ_skip rfl rfl ?_
  refine LJ_skip rfl rfl ?_
  refine LJ_skip rfl rfl ?_
  refine LJ_skip rfl rfl ?_
  refine LJ_skip rfl rfl ?_
  refine LJ_y rfl rfl (YJ_pickT rfl rfl) ?_
  refine LJ_nil ?_
  refine QJ_then ?_
  refine CJ_condT rfl ?_
  refine CJ_seq ?_
  refine CJ_reg ?_
  refine LJ_y rfl rfl (YJ_move rfl) ?_
  refine LJ_y rfl rfl (YJ_assign rfl) ?_
  refine LJ_nil ?_
  refine QJ_then ?_
  refine CJ_ret ?_
  refine QJ_in_ret ?_
  refine QJ_then_ret ?_
  refine QJ_in_ret ?_
  refine QJ_fin (.inl rfl) (μ' := []) (μr := _) (φ' := []) (res_tmp rfl rfl) (List.Perm.refl _) (fun _ h => nomatch h) ?_
  exact ⟨n + 1, ⟨by omega, by omega, fun j h0 h1 => hno j h0 (by omega), .inl (hit.trans h37)⟩, rfl, rfl, rfl⟩
 ·simp only [decide_eq_false_iff_not] at h37
  refine LJ_y rfl rfl (YJ_move rfl) ?_
  refine LJ_y rfl rfl (YJ_move rfl) ?_
  refine LJ_y rfl rfl (YJ_nilCheck rfl) ?_
  refine LJ_y rfl rfl (YJ_fieldOwn rfl fld_57_1 rfl) ?_
  refine LJ_y rfl rfl (YJ_loadFactP (A := some ⟨B, 0, none⟩) (j := 1) rfl rfl tyi_54 m0 rfl) ?_
  refine LJ_y rfl rfl (YJ_len rfl ulen_54 rfl) ?_
  refine LJ_y rfl rfl (YJ_bin rfl rfl rfl) ?_
  refine LJ_y rfl rfl (YJ_pickF rfl rfl) ?_
  refine LJ_nil ?_
  refine QJ_then ?_
  refine CJ_cond rfl (fun h45 => ?_) (fun h45 => ?_)
  ·simp only [decide_eq_true_eq] at h45
   refine CJ_seq ?_
   refine CJ_reg ?_
   refine LJ_y rfl rfl (YJ_move rfl) ?_
   refine LJ_y rfl rfl (YJ_assign rfl) ?_
   refine LJ_nil ?_
   refine QJ_then ?_
   refine CJ_ret ?_
   refine QJ_in_ret ?_
   refine QJ_then_ret ?_
   refine QJ_in_ret ?_
   refine QJ_fin (.inl rfl) (μ' := []) (μr := _) (φ' := []) (res_tmp rfl rfl) (List.Perm.refl _) (fun _ h => nomatch h) ?_
   exact ⟨n + 1, ⟨by omega, by omega, fun j h0 h1 => hno j h0 (by omega), .inr (by omega)⟩, rfl, rfl, rfl⟩
  ·simp only [decide_eq_false_iff_not] at h45
   refine CJ_skip ?_
   refine QJ_in_normal ?_
   refine QJ_roundF (F := fun (i : Int × Nat) => ⟨[(0, .pointer (some ⟨B, 0, none⟩)), (1, .int .i64 v), (2, .int .i64 fr), (7, .int .i64 (i.2 : Nat)), (8, .int .i64 i.1)], [], []⟩) (I := fun (i : Int × Nat) => i.1 = itr tris v i.2 fr ∧ S i.1 ∧ i.2 ≤ tris.length ∧ ∀ j, 0 < j → j ≤ i.2 → itr tris v j fr ≠ fr) (m := fun (i : Int × Nat) => tris.length + 1 - i.2) (i := (x, n)) ((t.n ((p + 1) % 3), n + 1)) (μd := []) ⟨hit.symm, hSn, by dsimp only; omega, fun j h0 h1 => (Nat.lt_or_ge j (n + 1)).elim (fun q => hno j h0 (by omega)) (fun q => by rw [show j = n + 1 from Nat.le_antisymm h1 q, hit]; exact h37)⟩ (by dsimp only; omega) (And.intro rfl (And.intro rfl (And.intro rfl (And.intro rfl (And.intro rfl (trivial)))))) (permI [] rfl) (fun _ h => nomatch h) (fun _ h => h)
end Go.Proofs.Ytbanlhlggkdanaa
namespace Go.Proofs.Ytbanlhlggkdanaa
open Go.RowKit
theorem tyi_144 : tyi Try.prog 144 = some (false, 1) := by kernel_rfl
theorem tyi_116 : tyi Try.prog 116 = some (false, 1) := by kernel_rfl
theorem ent_86 : Enter Try.prog 86 = true := by kernel_rfl
theorem lay_46 : lay1 Try.prog 46 = some [.int .i64 0, .int .i64 0] := by kernel_rfl
theorem umap_144 : Try.prog.underlying 144 = some (.map 46 146) := by kernel_rfl
theorem zer_146 : zer Try.prog 146 = some (.agg #[.int .i64 0, .int .i64 0]) := by kernel_rfl
theorem tyi_146 : tyi Try.prog 146 = some (true, 2) := by kernel_rfl
theorem lay_146 : lay1 Try.prog 146 = some [.int .i64 0, .int .i64 0] := by kernel_rfl
theorem fld_146_0 : fld Try.prog 146 0 = some 0 := by kernel_rfl
theorem fld_146_1 : fld Try.prog 146 1 = some 1 := by kernel_rfl
theorem umap_116 : Try.prog.underlying 116 = some (.map 46 3) := by kernel_rfl
abbrev fK : Int × Int → Value := fun x => .agg #[.int .i64 x.1, .int .i64 x.2]
abbrev gI : Int → Value := fun x => .int .i64 x
theorem check_arr2 {P : Program} (w : World) {t e : TypeId} {i : TypeInfo} {q : IntKind} (hu : P.underlying t = some (.array 2 e)) (hi : P.info? e = some i) (hs : i.size = 1) (he : tyi P e = some (false, 1)) (hk : P.underlying e = some (.int q)) (em : Bool) (a b : Int) :
  (Instr.checkKey em 10000 t (.agg #[.int .i64 a, .int .i64 b])).run P w = .ok () w := by
 rw [show (10000 : Nat) = 9998 + 1 + 1 from rfl]
 generalize 9998 = n
 have p0 : (part e #[Value.int .i64 a, Value.int .i64 b] (0 * 1)).run P w = .ok (.int .i64 a) w := run_part1 he rfl w
 have p1 : (part e #[Value.int .i64 a, Value.int .i64 b] (1 * 1)).run P w = .ok (.int .i64 b) w := run_part1 he rfl w
 have c0 : ∀ x : Int, (Instr.checkKey em (n + 1) e (.int .i64 x)).run P w = .ok () w := fun x => by simp [Instr.checkKey, run_underlying hk]
 have s0 : (sizeOf e).run P w = .ok 1 w := by simp [sizeOf, typeInfo, hi, hs]
 rw [Instr.checkKey]
 simp only [Sem.run_bind, run_underlying hu, Result.andThen_ok, Std.Legacy.Range.forIn_eq_forIn_range', Std.Legacy.Range.size, Nat.sub_zero, Nat.add_one_sub_one, Nat.div_one, List.range', List.forIn_cons, List.forIn_nil, s0, p0, p1, c0, Sem.run_pure, Nat.zero_add]
theorem info_int1 : ∃ i, Try.prog.info? 3 = some i ∧ i.size = 1 := by
 obtain ⟨i, hi⟩ := info_int
 refine ⟨i, hi, ?_⟩
 have h : (Try.prog.info? 3).map (·.size) = some 1 := by kernel_rfl
 rw [hi] at h
 simpa using h
theorem keyO : KeyT Try.prog 46 fK := by
 obtain ⟨i, hi, hs⟩ := info_int1
 exact keyTwo (by kernel_rfl) (fun em a b w => check_arr2 (q := .i64) w (by kernel_rfl) hi hs (by kernel_rfl) (by kernel_rfl) em a b) (fun a b c d w => run_eqArr2 w (by kernel_rfl) hi (by kernel_rfl) (by kernel_rfl) (by kernel_rfl) a b c d)
abbrev MapO := List ((Int × Int) × (Int × Int) × Nat)
abbrev MapI := List ((Int × Int) × Int × Nat)
def flt (F : MapI) (a b : Int) : Bool := decide (0 ≤ a) && (decide (0 ≤ b) && decide (0 < (mget (min a b, max a b) F).getD 0))
structure BS where
 M : MD
 L : MapO
 c : Nat
def joinE (F : MapI) (n : Nat) (v0 v1 v2 : Int) (s : BS) (i : Nat) : BS :=
 match mget (at3 v0 v1 v2 ((i + 2) % 3), at3 v0 v1 v2 ((i + 1) % 3)) s.L with
 | some x => ⟨s.M.link n i x.1.toNat x.2.toNat (flt F (at3 v0 v1 v2 ((i + 1) % 3)) (at3 v0 v1 v2 ((i + 2) % 3))), mdel (at3 v0 v1 v2 ((i + 2) % 3), at3 v0 v1 v2 ((i + 1) % 3)) s.L, s.c⟩
 | none => ⟨s.M, mput (at3 v0 v1 v2 ((i + 1) % 3), at3 v0 v1 v2 ((i + 2) % 3)) ((n : Int), (i : Int)) s.L s.c, mclk (at3 v0 v1 v2 ((i + 1) % 3), at3 v0 v1 v2 ((i + 2) % 3)) s.L s.c⟩
def joinB (F : MapI) (n : Nat) (v0 v1 v2 : Int) (s : BS) : BS := [0, 1, 2].foldl (joinE F n v0 v1 v2) s
def sOk (s : BS) : Prop := ∀ e, e ∈ s.L → (0 ≤ e.2.1.1 ∧ e.2.1.1 < s.M.tris.length) ∧ 0 ≤ e.2.1.2 ∧ e.2.1.2 < 3
theorem link_len (M : MD) (t i u j : Nat) (f : Bool) : (M.link t i u j f).tris.length = M.tris.length := by simp [MD.link]
theorem mget_mem {κ ν : Type} [DecidableEq κ] {k : κ} {l : List (κ × ν × Nat)} {v : ν} (h : mget k l = some v) : ∃ e, e ∈ l ∧ e.1 = k ∧ e.2.1 = v := by
 unfold mget at h
 cases hf : mfind k l 0 with
 | none => rw [hf] at h; cases h
 | some p =>
  rw [hf] at h
  obtain ⟨i, v'⟩ := p
  obtain ⟨_, e, h1, h2, h3⟩ := mfind_key hf
  simp at h
  subst h
  exact ⟨e, List.mem_of_getElem? h1, h2, h3⟩
theorem mdel_mem {κ ν : Type} [DecidableEq κ] {k : κ} {l : List (κ × ν × Nat)} {e : κ × ν × Nat} (h : e ∈ mdel k l) : e ∈ l := by
 unfold mdel at h
 split at h
 ·exact List.mem_of_mem_eraseIdx h
 ·exact h
theorem mput_mem {κ ν : Type} [DecidableEq κ] {k : κ} {v : ν} {l : List (κ × ν × Nat)} {c : Nat} {e : κ × ν × Nat} (h : e ∈ mput k v l c) : e.2.1 = v ∨ e ∈ l := by
 unfold mput at h
 split at h
 ·obtain ⟨i, hi⟩ := List.mem_iff_getElem?.1 h
  rw [List.getElem?_modify] at hi
  split at hi
  ·rename_i hj
   cases hl : l[i]? with
   | none => rw [hl] at hi; simp at hi
   | some e' => rw [hl] at hi; simp at hi; subst hi; exact .inl rfl
  ·simp at hi
   exact .inr (List.mem_of_getElem? hi)
 ·rcases List.mem_append.1 h with h | h
  ·exact .inr h
  ·rcases List.mem_singleton.1 h with rfl
   exact .inl rfl
theorem getD_int (m : Option Int) : ((m.map gI).getD (.int .i64 0)) = .int .i64 (m.getD 0) := by cases m <;> rfl
theorem j_three {F : MapI} {n : Nat} {v0 v1 v2 : Int} {s : BS} {k : Nat} (hk : k < 3) : ([0, 1, 2].take (k + 1)).foldl (joinE F n v0 v1 v2) s = joinE F n v0 v1 v2 (([0, 1, 2].take k).foldl (joinE F n v0 v1 v2) s) k := by
 match k, hk with
 | 0, _ => rfl
 | 1, _ => rfl
 | 2, _ => rfl
theorem tm3' {k j : Nat} (hk : k < 3) (hj : j < 3) : ((k : Int) + (j : Int)).tmod 3 = (((k + j) % 3 : Nat) : Int) := by
 match k, hk, j, hj with
 | 0, _, 0, _ => rfl
 | 0, _, 1, _ => rfl
 | 0, _, 2, _ => rfl
 | 1, _, 0, _ => rfl
 | 1, _, 1, _ => rfl
 | 1, _, 2, _ => rfl
 | 2, _, 0, _ => rfl
 | 2, _, 1, _ => rfl
 | 2, _, 2, _ => rfl
theorem v3_get {v0 v1 v2 : Int} {j : Nat} (hj : j < 3) : (#[.int .i64 v0, .int .i64 v1, .int .i64 v2] : Array Value)[0 + ((j : Nat) : Int).toNat * 1]? = some (.int .i64 (at3 v0 v1 v2 j)) := by
 match j, hj with
 | 0, _ => rfl
 | 1, _ => rfl
 | 2, _ => rfl
def joinFs (bo ro bm B bf rf : Nat) (F : MapI) (cF : Nat) : List Res := [sliceR 1 (some ⟨bo, 0, none⟩) 1 [.map (some ro)], sliceR 1 (some ⟨bm, 0, none⟩) 1 [.pointer (some ⟨B, 0, none⟩)], sliceR 1 (some ⟨bf, 0, none⟩) 1 [.map (some rf)], mapR rf fK gI F cF]
set_option maxRecDepth 100000 in
set_option maxHeartbeats 4000000 in
theorem join_c {bo ro bm B bf rf : Nat} {F : MapI} {cF : Nat} {n : Nat} {v0 v1 v2 : Int} {s0 : BS} (hn : n < s0.M.tris.length) (hlen : s0.M.tris.length ≤ 1000000) (hok0 : sOk s0) : Tri Try.prog 86 [.int .i64 (n : Int), .agg #[.int .i64 v0, .int .i64 v1, .int .i64 v2], .pointer (some ⟨bo, 0, none⟩), .pointer (some ⟨bm, 0, none⟩), .pointer (some ⟨bf, 0, none⟩)] [mapR ro fK fK s0.L s0.c, meshR B s0.M] (joinFs bo ro bm B bf rf F cF) (RetX (fun _ : Unit => True) (fun _ => .tuple #[]) (fun _ => [mapR ro fK fK (joinB F n v0 v1 v2 s0).L (joinB F n v0 v1 v2 s0).c, meshR B (joinB F n v0 v1 v2 s0).M]) (fun _ => [])) := by
 refine Tri_of (N := 72) Try.func86 rfl ent_86 rfl rfl ?_
 intro w0 S0 T0
 show CJ _ _ _ [(0, _), (1, _), (2, _), (3, _), (4, _)] _ _
 refine CJ_seq ?_
 refine CJ_reg ?_
 refine LJ_box (cs := #[_, _, _]) rfl rfl rfl rfl ?_
 intro b1
 refine LJ_nil ?_
 refine QJ_then ?_
 refine CJ_seq ?_
 refine CJ_reg ?_
 refine LJ_y rfl rfl (YJ_move rfl) ?_
 refine LJ_nil ?_
 refine QJ_then ?_
 refine CJ_block ?_
 refine CJ_loopF (F := fun (i : Nat × BS) => ⟨[(0, .int .i64 (n : Int)), (2, .pointer (some ⟨bo, 0, none⟩)), (3, .pointer (some ⟨bm, 0, none⟩)), (4, .pointer (some ⟨bf, 0, none⟩)), (6, .pointer (some ⟨b1, 0, none⟩)), (12, .int .i64 (i.1 : Nat))], [mapR ro fK fK i.2.L i.2.c, meshR B i.2.M], []⟩) (I := fun (i : Nat × BS) => i.1 ≤ 3 ∧ i.2 = ([0, 1, 2].take i.1).foldl (joinE F n v0 v1 v2) s0 ∧ sOk i.2 ∧ i.2.M.tris.length = s0.M.tris.length) (m := fun (i : Nat × BS) => 3 - i.1) (0, s0) (μr := [_]) ⟨Nat.zero_le _, rfl, hok0, rfl⟩ (And.intro rfl (And.intro rfl (And.intro rfl (And.intro rfl (And.intro rfl (And.intro rfl (trivial))))))) (permI [1, 1] rfl) (fun _ h => nomatch h) ?_
 rintro ⟨k, s⟩ ⟨hk, hs, hok, hln⟩
 try dsimp only at hk
 try dsimp only at hs
 try dsimp only at hok
 try dsimp only at hln
 show CJ _ _ _ [(0, .int .i64 (n : Int)), (2, .pointer (some ⟨bo, 0, none⟩)), (3, .pointer (some ⟨bm, 0, none⟩)), (4, .pointer (some ⟨bf, 0, none⟩)), (6, .pointer (some ⟨b1, 0, none⟩)), (12, .int .i64 (k : Nat))] (mapR ro fK fK s.L s.c :: meshR B s.M :: _ :: _) _
 refine CJ_seq ?_
 refine CJ_reg ?_
 refine LJ_y rfl rfl (YJ_bin rfl rfl rfl) ?_
 refine LJ_nil ?_
 refine QJ_then ?_
 refine CJ_seq ?_
 refine CJ_cond rfl (fun h13 => ?_) (fun h13 => ?_)
 ·simp only [decide_eq_true_eq] at h13
  have hk3 : k < 3 := by omega
  refine CJ_skip ?_
  refine QJ_then ?_
  refine CJ_seq ?_
  refine CJ_block ?_
  refine CJ_seq ?_
  refine CJ_reg ?_
  refine LJ_y rfl rfl (YJ_move rfl) ?_
  refine LJ_y rfl rfl (YJ_assign rfl) ?_
  refine LJ_nil ?_
  refine QJ_then ?_
  refine CJ_seq ?_
  refine CJ_regD mix (by kernel_rfl) (fun _ _ _ _ _ h => h) _ _ (fun _ h => h) (fun _ h => h) ?_
  refine AJ_y 0 rfl (by kernel_rfl) (by kernel_rfl) rfl rfl (YJ_move rfl) ?_
  refine AJ_y 1 rfl (by kernel_rfl) (by kernel_rfl) rfl rfl (YJ_bin rfl rfl (iop_add (by omega))) ?_
  refine AJ_y 2 rfl (by kernel_rfl) (by kernel_rfl) rfl rfl (YJ_rem rfl rfl (by first | decide | omega)) ?_
  refine AJ_val (v := .int .i64 (((k + 1) % 3 : Nat) : Int)) (congrArg (Value.int .i64) (tm3' (j := 1) hk3 (by decide))) ?_
  refine AJ_y 3 rfl (by kernel_rfl) (by kernel_rfl) rfl rfl (YJ_ixArr rfl rfl arrt_34 (by omega) (by omega) rfl) ?_
  refine AJ_y 4 rfl (by kernel_rfl) (by kernel_rfl) rfl rfl (YJ_load1 rfl tyi_3 m2 (v3_get (Nat.mod_lt (k + 1) (by decide)))) ?_
  refine AJ_y 5 rfl (by kernel_rfl) (by kernel_rfl) rfl rfl (YJ_move rfl) ?_
  refine AJ_y 6 rfl (by kernel_rfl) (by kernel_rfl) rfl rfl (YJ_bin rfl rfl (iop_add (by omega))) ?_
  refine AJ_y 7 rfl (by kernel_rfl) (by kernel_rfl) rfl rfl (YJ_rem rfl rfl (by first | decide | omega)) ?_
  refine AJ_val (v := .int .i64 (((k + 2) % 3 : Nat) : Int)) (congrArg (Value.int .i64) (tm3' (j := 2) hk3 (by decide))) ?_
  refine AJ_y 8 rfl (by kernel_rfl) (by kernel_rfl) rfl rfl (YJ_ixArr rfl rfl arrt_34 (by omega) (by omega) rfl) ?_
  refine AJ_y 9 rfl (by kernel_rfl) (by kernel_rfl) rfl rfl (YJ_load1 rfl tyi_3 m2 (v3_get (Nat.mod_lt (k + 2) (by decide)))) ?_
  refine AJ_y 10 rfl (by kernel_rfl) (by kernel_rfl) rfl rfl (YJ_assign rfl) ?_
  refine AJ_y 11 rfl (by kernel_rfl) (by kernel_rfl) rfl rfl (YJ_assign rfl) ?_
  refine AJ_done (by kernel_rfl) ?_
  refine QJ_then ?_
  refine CJ_seq ?_
  refine CJ_reg ?_
  refine LJ_y rfl rfl (YJ_loadFactP (A := some ⟨bo, 0, none⟩) (j := 0) rfl rfl tyi_144 m0 rfl) ?_
  refine LJ_y rfl rfl (YJ_move rfl) ?_
  refine LJ_y rfl rfl (YJ_move rfl) ?_
  refine LJ_y rfl rfl (YJ_build1 (cs := [_, _]) lay_46 rfl rfl rfl) ?_
  rcases hmg : mget (at3 v0 v1 v2 ((k + 2) % 3), at3 v0 v1 v2 ((k + 1) % 3)) s.L with _ | ⟨t9, i9⟩
  ·skip
   refine LJ_y rfl rfl (YJ_lookup (f := fK) (g := fK) (k := (at3 v0 v1 v2 ((k + 2) % 3), at3 v0 v1 v2 ((k + 1) % 3))) rfl rfl umap_144 keyO zer_146 (MapAt_own m0) rfl) ?_
   refine LJ_val (v := .tuple #[.agg #[.int .i64 0, .int .i64 0], .bool false]) (by rw [hmg]; rfl) ?_
   refine LJ_y rfl rfl (YJ_move rfl) ?_
   refine LJ_y rfl rfl (YJ_extract rfl rfl) ?_
   refine LJ_y rfl rfl (YJ_extract rfl rfl) ?_
   refine LJ_alloc (cs := #[_, _]) rfl rfl zer_146 rfl ?_
   intro b2
   refine LJ_store (cs' := #[_, _]) (μ' := [_, _, _, _]) 0 rfl rfl rfl rfl tyi_146 rfl (Nat.le_of_ble_eq_true rfl) rfl rfl rfl ?_
   refine LJ_y rfl rfl (YJ_assign rfl) ?_
   refine LJ_nil ?_
   refine QJ_then ?_
   refine CJ_seq ?_
   refine CJ_reg ?_
   refine LJ_y rfl rfl (YJ_move rfl) ?_
   refine LJ_nil ?_
   refine QJ_then ?_
   refine CJ_condF rfl ?_
   refine CJ_reg ?_
   refine LJ_y rfl rfl (YJ_loadFactP (A := some ⟨bo, 0, none⟩) (j := 0) rfl rfl tyi_144 m0 rfl) ?_
   refine LJ_y rfl rfl (YJ_move rfl) ?_
   refine LJ_y rfl rfl (YJ_move rfl) ?_
   refine LJ_y rfl rfl (YJ_build1 (cs := [_, _]) lay_46 rfl rfl rfl) ?_
   refine LJ_y rfl rfl (YJ_move rfl) ?_
   refine LJ_y rfl rfl (YJ_move rfl) ?_
   refine LJ_y rfl rfl (YJ_build1 (cs := [_, _]) lay_146 rfl rfl rfl) ?_
   refine LJ_mapUpdate (f := fK) (g := fK) (k := (at3 v0 v1 v2 ((k + 1) % 3), at3 v0 v1 v2 ((k + 2) % 3))) (v := ((n : Int), (k : Int))) 1 rfl rfl rfl rfl rfl umap_144 keyO rfl rfl ?_
   show LJ _ _ _ _ _ (_ :: _ :: _ :: _ :: _) _
   refine LJ_nil ?_
   refine QJ_in_normal ?_
   refine QJ_then ?_
   refine CJ_reg ?_
   refine LJ_y rfl rfl (YJ_bin rfl rfl (iop_add (by omega))) ?_
   refine LJ_y rfl rfl (YJ_move rfl) ?_
   refine LJ_nil ?_
   refine QJ_roundF (F := fun (i : Nat × BS) => ⟨[(0, .int .i64 (n : Int)), (2, .pointer (some ⟨bo, 0, none⟩)), (3, .pointer (some ⟨bm, 0, none⟩)), (4, .pointer (some ⟨bf, 0, none⟩)), (6, .pointer (some ⟨b1, 0, none⟩)), (12, .int .i64 (i.1 : Nat))], [mapR ro fK fK i.2.L i.2.c, meshR B i.2.M], []⟩) (I := fun (i : Nat × BS) => i.1 ≤ 3 ∧ i.2 = ([0, 1, 2].take i.1).foldl (joinE F n v0 v1 v2) s0 ∧ sOk i.2 ∧ i.2.M.tris.length = s0.M.tris.length) (m := fun (i : Nat × BS) => 3 - i.1) (i := (k, s)) ((k + 1, ⟨s.M, mput (at3 v0 v1 v2 ((k + 1) % 3), at3 v0 v1 v2 ((k + 2) % 3)) ((n : Int), (k : Int)) s.L s.c, mclk (at3 v0 v1 v2 ((k + 1) % 3), at3 v0 v1 v2 ((k + 2) % 3)) s.L s.c⟩)) (μd := [_]) ⟨by omega, by dsimp only; rw [j_three hk3, ← hs]; unfold joinE; rw [hmg], fun e he => (mput_mem he).elim (fun q => by rw [q]; dsimp only; omega) (hok e), hln⟩ (by dsimp only; omega) (And.intro rfl (And.intro rfl (And.intro rfl (And.intro rfl (And.intro rfl (And.intro rfl (trivial))))))) (permI [1, 1, 1] rfl) (fun _ h => nomatch h) (fun _ h => h)
  ·skip
   have hmm := mget_mem hmg
   obtain ⟨e9, he9, _, hv9⟩ := hmm
   obtain ⟨⟨ht0, ht1⟩, hi0, hi1⟩ := hok e9 he9
   rw [hv9] at ht0 ht1 hi0 hi1
   dsimp only at ht0 ht1 hi0 hi1
   refine LJ_y rfl rfl (YJ_lookup (f := fK) (g := fK) (k := (at3 v0 v1 v2 ((k + 2) % 3), at3 v0 v1 v2 ((k + 1) % 3))) rfl rfl umap_144 keyO zer_146 (MapAt_own m0) rfl) ?_
   refine LJ_val (v := .tuple #[.agg #[.int .i64 t9, .int .i64 i9], .bool true]) (by rw [hmg]; rfl) ?_
   refine LJ_y rfl rfl (YJ_move rfl) ?_
   refine LJ_y rfl rfl (YJ_extract rfl rfl) ?_
   refine LJ_y rfl rfl (YJ_extract rfl rfl) ?_
   refine LJ_alloc (cs := #[_, _]) rfl rfl zer_146 rfl ?_
   intro b3
   refine LJ_store (cs' := #[_, _]) (μ' := [_, _, _, _]) 0 rfl rfl rfl rfl tyi_146 rfl (Nat.le_of_ble_eq_true rfl) rfl rfl rfl ?_
   refine LJ_y rfl rfl (YJ_assign rfl) ?_
   refine LJ_nil ?_
   refine QJ_then ?_
   refine CJ_seq ?_
   refine CJ_reg ?_
   refine LJ_y rfl rfl (YJ_move rfl) ?_
   refine LJ_nil ?_
   refine QJ_then ?_
   refine CJ_condT rfl ?_
   refine CJ_seq ?_
   refine CJ_regD mix (by kernel_rfl) (fun _ _ _ _ _ h => h) (selR [0, 1, 3] _) _ (selR_sub _ _) (fun _ h => h) ?_
   refine AJ_y 0 rfl (by kernel_rfl) (by kernel_rfl) rfl rfl (YJ_loadFactP (A := some ⟨bm, 0, none⟩) (j := 0) rfl rfl tyi_28 m1 rfl) ?_
   refine AJ_y 1 rfl (by kernel_rfl) (by kernel_rfl) rfl rfl (YJ_move rfl) ?_
   refine AJ_y 2 rfl (by kernel_rfl) (by kernel_rfl) rfl rfl (YJ_move rfl) ?_
   refine AJ_y 3 rfl (by kernel_rfl) (by kernel_rfl) rfl rfl (YJ_fieldOwn rfl fld_146_0 rfl) ?_
   refine AJ_y 4 rfl (by kernel_rfl) (by kernel_rfl) rfl rfl (YJ_loadL rfl tyi_3 m0 rfl) ?_
   refine AJ_val (v := .int .i64 ((t9.toNat : Nat) : Int)) (congrArg (Value.int .i64) (by omega)) ?_
   refine AJ_y 5 rfl (by kernel_rfl) (by kernel_rfl) rfl rfl (YJ_fieldOwn rfl fld_146_1 rfl) ?_
   refine AJ_y 6 rfl (by kernel_rfl) (by kernel_rfl) rfl rfl (YJ_loadL rfl tyi_3 m0 rfl) ?_
   refine AJ_val (v := .int .i64 ((i9.toNat : Nat) : Int)) (congrArg (Value.int .i64) (by omega)) ?_
   refine AJ_y 7 rfl (by kernel_rfl) (by kernel_rfl) rfl rfl (YJ_move rfl) ?_
   refine AJ_y 8 rfl (by kernel_rfl) (by kernel_rfl) rfl rfl (YJ_bin rfl rfl rfl) ?_
   refine AJ_y 9 rfl (by kernel_rfl) (by kernel_rfl) rfl rfl (YJ_move rfl) ?_
   refine AJ_boolC (fun h43 => ?_) (fun h43 => ?_)
   ·simp only [decide_eq_true_eq] at h43
    refine AJ_y 10 rfl (by kernel_rfl) (by kernel_rfl) rfl rfl (YJ_move rfl) ?_
    refine AJ_y 11 rfl (by kernel_rfl) (by kernel_rfl) rfl rfl (YJ_bin rfl rfl rfl) ?_
    refine AJ_y 12 rfl (by kernel_rfl) (by kernel_rfl) rfl rfl (YJ_pickT rfl rfl) ?_
    refine AJ_y 13 rfl (by kernel_rfl) (by kernel_rfl) rfl rfl (YJ_move rfl) ?_
    refine AJ_boolC (fun h47 => ?_) (fun h47 => ?_)
    ·simp only [decide_eq_true_eq] at h47
     refine AJ_y 14 rfl (by kernel_rfl) (by kernel_rfl) rfl rfl (YJ_loadFactP (A := some ⟨bf, 0, none⟩) (j := 0) rfl rfl tyi_116 m2 rfl) ?_
     refine AJ_y 15 rfl (by kernel_rfl) (by kernel_rfl) rfl rfl (YJ_move rfl) ?_
     refine AJ_y 16 rfl (by kernel_rfl) (by kernel_rfl) rfl rfl (YJ_move rfl) ?_
     refine AJ_y 17 rfl (by kernel_rfl) (by kernel_rfl) rfl rfl (YJ_min2 rfl rfl) ?_
     refine AJ_y 18 rfl (by kernel_rfl) (by kernel_rfl) rfl rfl (YJ_move rfl) ?_
     refine AJ_y 19 rfl (by kernel_rfl) (by kernel_rfl) rfl rfl (YJ_move rfl) ?_
     refine AJ_y 20 rfl (by kernel_rfl) (by kernel_rfl) rfl rfl (YJ_max2 rfl rfl) ?_
     refine AJ_y 21 rfl (by kernel_rfl) (by kernel_rfl) rfl rfl (YJ_build1 (cs := [_, _]) lay_46 rfl rfl rfl) ?_
     refine AJ_y 22 rfl (by kernel_rfl) (by kernel_rfl) rfl rfl (YJ_lookup (f := fK) (g := gI) (k := (min (at3 v0 v1 v2 ((k + 1) % 3)) (at3 v0 v1 v2 ((k + 2) % 3)), max (at3 v0 v1 v2 ((k + 1) % 3)) (at3 v0 v1 v2 ((k + 2) % 3)))) rfl rfl umap_116 keyO zer_3 (MapAt_fact m3) rfl) ?_
     refine AJ_val (v := .int .i64 ((mget (min (at3 v0 v1 v2 ((k + 1) % 3)) (at3 v0 v1 v2 ((k + 2) % 3)), max (at3 v0 v1 v2 ((k + 1) % 3)) (at3 v0 v1 v2 ((k + 2) % 3))) F).getD 0)) (getD_int _) ?_
     refine AJ_y 23 rfl (by kernel_rfl) (by kernel_rfl) rfl rfl (YJ_bin rfl rfl rfl) ?_
     refine AJ_y 24 rfl (by kernel_rfl) (by kernel_rfl) rfl rfl (YJ_pickT rfl rfl) ?_
     refine AJ_call1 25 2 rfl (by kernel_rfl) rfl rfl rfl rfl rfl rfl (link_c (t := n) (i := k) (u := t9.toNat) (j := i9.toNat) (f := decide (0 < (mget (min (at3 v0 v1 v2 ((k + 1) % 3)) (at3 v0 v1 v2 ((k + 2) % 3)), max (at3 v0 v1 v2 ((k + 1) % 3)) (at3 v0 v1 v2 ((k + 2) % 3))) F).getD 0)) (by rw [hln]; exact hn) (by omega) hk3 (by omega)) (fun _ h => nomatch h) (AllIn.sub (And.intro m0 (And.intro m1 (And.intro m3 (trivial))))) ?_
     show AJ _ _ _ _ _ _ _ _ (_ :: _ :: _ :: _ :: _) _
     refine AJ_done (by kernel_rfl) ?_
     refine QJ_then ?_
     refine CJ_reg ?_
     refine LJ_y rfl rfl (YJ_loadFactP (A := some ⟨bo, 0, none⟩) (j := 0) rfl rfl tyi_144 m0 rfl) ?_
     refine LJ_y rfl rfl (YJ_move rfl) ?_
     refine LJ_y rfl rfl (YJ_move rfl) ?_
     refine LJ_y rfl rfl (YJ_build1 (cs := [_, _]) lay_46 rfl rfl rfl) ?_
     refine LJ_delete (f := fK) (g := fK) (k := (at3 v0 v1 v2 ((k + 2) % 3), at3 v0 v1 v2 ((k + 1) % 3))) 1 rfl rfl rfl rfl umap_144 keyO rfl ?_
     show LJ _ _ _ _ _ (_ :: _ :: _ :: _ :: _) _
     refine LJ_nil ?_
     refine QJ_in_normal ?_
     refine QJ_then ?_
     refine CJ_reg ?_
     refine LJ_y rfl rfl (YJ_bin rfl rfl (iop_add (by omega))) ?_
     refine LJ_y rfl rfl (YJ_move rfl) ?_
     refine LJ_nil ?_
     refine QJ_roundF (F := fun (i : Nat × BS) => ⟨[(0, .int .i64 (n : Int)), (2, .pointer (some ⟨bo, 0, none⟩)), (3, .pointer (some ⟨bm, 0, none⟩)), (4, .pointer (some ⟨bf, 0, none⟩)), (6, .pointer (some ⟨b1, 0, none⟩)), (12, .int .i64 (i.1 : Nat))], [mapR ro fK fK i.2.L i.2.c, meshR B i.2.M], []⟩) (I := fun (i : Nat × BS) => i.1 ≤ 3 ∧ i.2 = ([0, 1, 2].take i.1).foldl (joinE F n v0 v1 v2) s0 ∧ sOk i.2 ∧ i.2.M.tris.length = s0.M.tris.length) (m := fun (i : Nat × BS) => 3 - i.1) (i := (k, s)) ((k + 1, ⟨s.M.link n k t9.toNat i9.toNat (decide (0 < (mget (min (at3 v0 v1 v2 ((k + 1) % 3)) (at3 v0 v1 v2 ((k + 2) % 3)), max (at3 v0 v1 v2 ((k + 1) % 3)) (at3 v0 v1 v2 ((k + 2) % 3))) F).getD 0)), mdel (at3 v0 v1 v2 ((k + 2) % 3), at3 v0 v1 v2 ((k + 1) % 3)) s.L, s.c⟩)) (μd := [_]) ⟨by omega, by dsimp only; rw [j_three hk3, ← hs]; unfold joinE; rw [hmg]; dsimp only; rw [show flt F (at3 v0 v1 v2 ((k + 1) % 3)) (at3 v0 v1 v2 ((k + 2) % 3)) = (decide (0 < (mget (min (at3 v0 v1 v2 ((k + 1) % 3)) (at3 v0 v1 v2 ((k + 2) % 3)), max (at3 v0 v1 v2 ((k + 1) % 3)) (at3 v0 v1 v2 ((k + 2) % 3))) F).getD 0)) from by unfold flt; simp [h43, h47]], fun e he => by dsimp only at he ⊢; rw [link_len]; exact hok e (mdel_mem he), by dsimp only; rw [link_len]; exact hln⟩ (by dsimp only; omega) (And.intro rfl (And.intro rfl (And.intro rfl (And.intro rfl (And.intro rfl (And.intro rfl (trivial))))))) (permI [1, 1, 1] rfl) (fun _ h => nomatch h) (fun _ h => h)
    ·simp only [decide_eq_false_iff_not] at h47
     refine AJ_skip 14 rfl (by kernel_rfl) (by kernel_rfl) rfl rfl ?_
     refine AJ_skip 15 rfl (by kernel_rfl) (by kernel_rfl) rfl rfl ?_
     refine AJ_skip 16 rfl (by kernel_rfl) (by kernel_rfl) rfl rfl ?_
     refine AJ_skip 17 rfl (by kernel_rfl) (by kernel_rfl) rfl rfl ?_
     refine AJ_skip 18 rfl (by kernel_rfl) (by kernel_rfl) rfl rfl ?_
     refine AJ_skip 19 rfl (by kernel_rfl) (by kernel_rfl) rfl rfl ?_
     refine AJ_skip 20 rfl (by kernel_rfl) (by kernel_rfl) rfl rfl ?_
     refine AJ_skip 21 rfl (by kernel_rfl) (by kernel_rfl) rfl rfl ?_
     refine AJ_skip 22 rfl (by kernel_rfl) (by kernel_rfl) rfl rfl ?_
     refine AJ_skip 23 rfl (by kernel_rfl) (by kernel_rfl) rfl rfl ?_
     refine AJ_y 24 rfl (by kernel_rfl) (by kernel_rfl) rfl rfl (YJ_pickF rfl rfl) ?_
     refine AJ_call1 25 2 rfl (by kernel_rfl) rfl rfl rfl rfl rfl rfl (link_c (t := n) (i := k) (u := t9.toNat) (j := i9.toNat) (f := false) (by rw [hln]; exact hn) (by omega) hk3 (by omega)) (fun _ h => nomatch h) (AllIn.sub (And.intro m0 (And.intro m1 (And.intro m3 (trivial))))) ?_
     show AJ _ _ _ _ _ _ _ _ (_ :: _ :: _ :: _ :: _) _
     refine AJ_done (by kernel_rfl) ?_
     refine QJ_then ?_
     refine CJ_reg ?_
     refine LJ_y rfl rfl (YJ_loadFactP (A := some ⟨bo, 0, none⟩) (j := 0) rfl rfl tyi_144 m0 rfl) ?_
     refine LJ_y rfl rfl (YJ_move rfl) ?_
     refine LJ_y rfl rfl (YJ_move rfl) ?_
     refine LJ_y rfl rfl (YJ_build1 (cs := [_, _]) lay_46 rfl rfl rfl) ?_
     refine LJ_delete (f := fK) (g := fK) (k := (at3 v0 v1 v2 ((k + 2) % 3), at3 v0 v1 v2 ((k + 1) % 3))) 1 rfl rfl rfl rfl umap_144 keyO rfl ?_
     show LJ _ _ _ _ _ (_ :: _ :: _ :: _ :: _) _
     refine LJ_nil ?_
     refine QJ_in_normal ?_
     refine QJ_then ?_
     refine CJ_reg ?_
     refine LJ_y rfl rfl (YJ_bin rfl rfl (iop_add (by omega))) ?_
     refine LJ_y rfl rfl (YJ_move rfl) ?_
     refine LJ_nil ?_
     refine QJ_roundF (F := fun (i : Nat × BS) => ⟨[(0, .int .i64 (n : Int)), (2, .pointer (some ⟨bo, 0, none⟩)), (3, .pointer (some ⟨bm, 0, none⟩)), (4, .pointer (some ⟨bf, 0, none⟩)), (6, .pointer (some ⟨b1, 0, none⟩)), (12, .int .i64 (i.1 : Nat))], [mapR ro fK fK i.2.L i.2.c, meshR B i.2.M], []⟩) (I := fun (i : Nat × BS) => i.1 ≤ 3 ∧ i.2 = ([0, 1, 2].take i.1).foldl (joinE F n v0 v1 v2) s0 ∧ sOk i.2 ∧ i.2.M.tris.length = s0.M.tris.length) (m := fun (i : Nat × BS) => 3 - i.1) (i := (k, s)) ((k + 1, ⟨s.M.link n k t9.toNat i9.toNat (false), mdel (at3 v0 v1 v2 ((k + 2) % 3), at3 v0 v1 v2 ((k + 1) % 3)) s.L, s.c⟩)) (μd := [_]) ⟨by omega, by dsimp only; rw [j_three hk3, ← hs]; unfold joinE; rw [hmg]; dsimp only; rw [show flt F (at3 v0 v1 v2 ((k + 1) % 3)) (at3 v0 v1 v2 ((k + 2) % 3)) = (false) from by unfold flt; simp [h43, h47]], fun e he => by dsimp only at he ⊢; rw [link_len]; exact hok e (mdel_mem he), by dsimp only; rw [link_len]; exact hln⟩ (by dsimp only; omega) (And.intro rfl (And.intro rfl (And.intro rfl (And.intro rfl (And.intro rfl (And.intro rfl (trivial))))))) (permI [1, 1, 1] rfl) (fun _ h => nomatch h) (fun _ h => h)
   ·simp only [decide_eq_false_iff_not] at h43
    refine AJ_skip 10 rfl (by kernel_rfl) (by kernel_rfl) rfl rfl ?_
    refine AJ_skip 11 rfl (by kernel_rfl) (by kernel_rfl) rfl rfl ?_
    refine AJ_y 12 rfl (by kernel_rfl) (by kernel_rfl) rfl rfl (YJ_pickF rfl rfl) ?_
    refine AJ_y 13 rfl (by kernel_rfl) (by kernel_rfl) rfl rfl (YJ_move rfl) ?_
    refine AJ_skip 14 rfl (by kernel_rfl) (by kernel_rfl) rfl rfl ?_
    refine AJ_skip 15 rfl (by kernel_rfl) (by kernel_rfl) rfl rfl ?_
    refine AJ_skip 16 rfl (by kernel_rfl) (by kernel_rfl) rfl rfl ?_
    refine AJ_skip 17 rfl (by kernel_rfl) (by kernel_rfl) rfl rfl ?_
    refine AJ_skip 18 rfl (by kernel_rfl) (by kernel_rfl) rfl rfl ?_
    refine AJ_skip 19 rfl (by kernel_rfl) (by kernel_rfl) rfl rfl ?_
    refine AJ_skip 20 rfl (by kernel_rfl) (by kernel_rfl) rfl rfl ?_
    refine AJ_skip 21 rfl (by kernel_rfl) (by kernel_rfl) rfl rfl ?_
    refine AJ_skip 22 rfl (by kernel_rfl) (by kernel_rfl) rfl rfl ?_
    refine AJ_skip 23 rfl (by kernel_rfl) (by kernel_rfl) rfl rfl ?_
    refine AJ_y 24 rfl (by kernel_rfl) (by kernel_rfl) rfl rfl (YJ_pickF rfl rfl) ?_
    refine AJ_call1 25 2 rfl (by kernel_rfl) rfl rfl rfl rfl rfl rfl (link_c (t := n) (i := k) (u := t9.toNat) (j := i9.toNat) (f := false) (by rw [hln]; exact hn) (by omega) hk3 (by omega)) (fun _ h => nomatch h) (AllIn.sub (And.intro m0 (And.intro m1 (And.intro m3 (trivial))))) ?_
    show AJ _ _ _ _ _ _ _ _ (_ :: _ :: _ :: _ :: _) _
    refine AJ_done (by kernel_rfl) ?_
    refine QJ_then ?_
    refine CJ_reg ?_
    refine LJ_y rfl rfl (YJ_loadFactP (A := some ⟨bo, 0, none⟩) (j := 0) rfl rfl tyi_144 m0 rfl) ?_
    refine LJ_y rfl rfl (YJ_move rfl) ?_
    refine LJ_y rfl rfl (YJ_move rfl) ?_
    refine LJ_y rfl rfl (YJ_build1 (cs := [_, _]) lay_46 rfl rfl rfl) ?_
    refine LJ_delete (f := fK) (g := fK) (k := (at3 v0 v1 v2 ((k + 2) % 3), at3 v0 v1 v2 ((k + 1) % 3))) 1 rfl rfl rfl rfl umap_144 keyO rfl ?_
    show LJ _ _ _ _ _ (_ :: _ :: _ :: _ :: _) _
    refine LJ_nil ?_
    refine QJ_in_normal ?_
    refine QJ_then ?_
    refine CJ_reg ?_
    refine LJ_y rfl rfl (YJ_bin rfl rfl (iop_add (by omega))) ?_
    refine LJ_y rfl rfl (YJ_move rfl) ?_
    refine LJ_nil ?_
    refine QJ_roundF (F := fun (i : Nat × BS) => ⟨[(0, .int .i64 (n : Int)), (2, .pointer (some ⟨bo, 0, none⟩)), (3, .pointer (some ⟨bm, 0, none⟩)), (4, .pointer (some ⟨bf, 0, none⟩)), (6, .pointer (some ⟨b1, 0, none⟩)), (12, .int .i64 (i.1 : Nat))], [mapR ro fK fK i.2.L i.2.c, meshR B i.2.M], []⟩) (I := fun (i : Nat × BS) => i.1 ≤ 3 ∧ i.2 = ([0, 1, 2].take i.1).foldl (joinE F n v0 v1 v2) s0 ∧ sOk i.2 ∧ i.2.M.tris.length = s0.M.tris.length) (m := fun (i : Nat × BS) => 3 - i.1) (i := (k, s)) ((k + 1, ⟨s.M.link n k t9.toNat i9.toNat (false), mdel (at3 v0 v1 v2 ((k + 2) % 3), at3 v0 v1 v2 ((k + 1) % 3)) s.L, s.c⟩)) (μd := [_]) ⟨by omega, by dsimp only; rw [j_three hk3, ← hs]; unfold joinE; rw [hmg]; dsimp only; rw [show flt F (at3 v0 v1 v2 ((k + 1) % 3)) (at3 v0 v1 v2 ((k + 2) % 3)) = (false) from by unfold flt; simp [h43]], fun e he => by dsimp only at he ⊢; rw [link_len]; exact hok e (mdel_mem he), by dsimp only; rw [link_len]; exact hln⟩ (by dsimp only; omega) (And.intro rfl (And.intro rfl (And.intro rfl (And.intro rfl (And.intro rfl (And.intro rfl (trivial))))))) (permI [1, 1, 1] rfl) (fun _ h => nomatch h) (fun _ h => h)
 ·simp only [decide_eq_false_iff_not] at h13
  refine CJ_exit ?_
  refine QJ_then_exit ?_
  refine QJ_then_exit ?_
  refine QJ_in_exit ?_
  have hk9 : k = 3 := by omega
  subst hk9
  have hs9 : s = joinB F n v0 v1 v2 s0 := hs
  subst hs9
  exact QJ_fin (.inr rfl) (μ' := [_, _]) (μr := [_]) (φ' := []) (res_none rfl) (permI [] rfl) (fun _ h => nomatch h) ⟨(), trivial, rfl, rfl, rfl⟩
end Go.Proofs.Ytbanlhlggkdanaa
namespace Go.Proofs.Ytbanlhlggkdanaa
open Go.RowKit
def t3Cells (l : List (Int × Int × Int)) : List Value := l.flatMap fun x => [.int .i64 x.1, .int .i64 x.2.1, .int .i64 x.2.2]
def kCells (l : MapO) : List Value := l.flatMap fun e => [.int .i64 e.1.1, .int .i64 e.1.2]
theorem t3_row : ∀ {l : List (Int × Int × Int)} {i : Nat} {x : Int × Int × Int}, l[i]? = some x → ((t3Cells l).drop (i * 3)).take 3 = [.int .i64 x.1, .int .i64 x.2.1, .int .i64 x.2.2]
 | [], i, x, h => by simp at h
 | u :: l, 0, x, h => by
  simp at h
  subst h
  simp [t3Cells]
 | u :: l, i + 1, x, h => by
  have := t3_row (l := l) (i := i) (x := x) (by simpa using h)
  rw [← this, Nat.succ_mul]
  simp [t3Cells]
theorem k_row : ∀ {l : MapO} {i : Nat} {x : (Int × Int) × (Int × Int) × Nat}, l[i]? = some x → ((kCells l).drop (i * 2)).take 2 = [.int .i64 x.1.1, .int .i64 x.1.2]
 | [], i, x, h => by simp at h
 | u :: l, 0, x, h => by
  simp at h
  subst h
  simp [kCells]
 | u :: l, i + 1, x, h => by
  have := k_row (l := l) (i := i) (x := x) (by simpa using h)
  rw [← this, Nat.succ_mul]
  simp [kCells]
theorem k_app (l : MapO) (e : (Int × Int) × (Int × Int) × Nat) : kCells l ++ [.int .i64 e.1.1, .int .i64 e.1.2] = kCells (l ++ [e]) := by simp [kCells]
structure bOk (n : Nat) (s : BS) : Prop where
 ats : s.M.ats.length = n
 free : ∀ k, k ∈ s.M.free → 0 ≤ k ∧ k < s.M.tris.length
 fl : s.M.free.length ≤ 4
 op : sOk s
 clk : ∀ e, e ∈ s.L → e.2.2 < s.c
 nod : (s.L.map (·.2.2)).Nodup
 key : ∀ e, e ∈ s.L → e.1.1 < n ∧ e.1.2 < n
theorem mdel_born {κ ν : Type} [DecidableEq κ] {k : κ} {l : List (κ × ν × Nat)} (h : (l.map (·.2.2)).Nodup) : ((mdel k l).map (·.2.2)).Nodup := by
 unfold mdel
 split
 ·exact h.sublist (List.Sublist.map _ (List.eraseIdx_sublist _ _))
 ·exact h
theorem mput_born {κ ν : Type} [DecidableEq κ] {k : κ} {v : ν} {l : List (κ × ν × Nat)} {c : Nat} (hc : ∀ e, e ∈ l → e.2.2 < c) (h : (l.map (·.2.2)).Nodup) : ((mput k v l c).map (·.2.2)).Nodup ∧ ∀ e, e ∈ mput k v l c → e.2.2 < mclk k l c := by
 unfold mput mclk
 cases hf : mfind k l 0 with
 | some p =>
  obtain ⟨i, v'⟩ := p
  dsimp only
  have e1 : (l.modify i (fun e => (e.1, v, e.2.2))).map (·.2.2) = l.map (·.2.2) := by
   apply List.ext_getElem?
   intro j
   simp only [List.getElem?_map, List.getElem?_modify]
   cases l[j]? with
   | none => simp
   | some e => by_cases hj : i = j <;> simp [hj]
  refine ⟨by rw [e1]; exact h, fun e he => ?_⟩
  have : e.2.2 ∈ l.map (·.2.2) := by rw [← e1]; exact List.mem_map.2 ⟨e, he, rfl⟩
  obtain ⟨e', he', hb⟩ := List.mem_map.1 this
  rw [← hb]; exact hc e' he'
 | none =>
  dsimp only
  refine ⟨?_, fun e he => ?_⟩
  ·rw [List.map_append, List.nodup_append]
   refine ⟨h, by simp, ?_⟩
   intro a ha b hb
   obtain ⟨e, he, rfl⟩ := List.mem_map.1 ha
   simp at hb
   subst hb
   have := hc e he
   omega
  ·rcases List.mem_append.1 he with he | he
   ·have := hc e he; omega
   ·rcases List.mem_singleton.1 he with rfl
    exact Nat.lt_succ_self c
theorem mput_key {κ ν : Type} [DecidableEq κ] {k : κ} {v : ν} {l : List (κ × ν × Nat)} {c : Nat} {e : κ × ν × Nat} (h : e ∈ mput k v l c) : e.1 = k ∨ ∃ e', e' ∈ l ∧ e'.1 = e.1 := by
 unfold mput at h
 split at h
 ·obtain ⟨i, hi⟩ := List.mem_iff_getElem?.1 h
  rw [List.getElem?_modify] at hi
  cases hl : l[i]? with
  | none => rw [hl] at hi; simp at hi
  | some e' =>
   rw [hl] at hi
   refine .inr ⟨e', List.mem_of_getElem? hl, ?_⟩
   simp at hi
   split at hi <;> (subst hi; rfl)
 ·rcases List.mem_append.1 h with h | h
  ·exact .inr ⟨e, h, rfl⟩
  ·rcases List.mem_singleton.1 h with rfl
   exact .inl rfl
theorem at3_lt {v0 v1 v2 : Int} {n : Nat} (h0 : v0 < n) (h1 : v1 < n) (h2 : v2 < n) (j : Nat) : at3 v0 v1 v2 j < n := by unfold at3; split <;> (try split) <;> assumption
theorem joinE_ok {F : MapI} {n t : Nat} {v0 v1 v2 : Int} {s : BS} {i : Nat} (h : bOk n s) (ht : t < s.M.tris.length) (h0 : v0 < n) (h1 : v1 < n) (h2 : v2 < n) (hi : i < 3) :
  bOk n (joinE F t v0 v1 v2 s i) ∧ (joinE F t v0 v1 v2 s i).M.tris.length = s.M.tris.length ∧ (joinE F t v0 v1 v2 s i).M.pts = s.M.pts ∧ (joinE F t v0 v1 v2 s i).M.free = s.M.free := by
 unfold joinE
 split
 ·refine ⟨⟨h.ats, fun k hk => by show _ ∧ _ < ((s.M.link _ _ _ _ _).tris.length : Int); rw [link_len]; exact h.free k hk, h.fl, fun e he => ?_, fun e he => h.clk e (mdel_mem he), mdel_born h.nod, fun e he => h.key e (mdel_mem he)⟩, link_len .., rfl, rfl⟩
  dsimp only at he ⊢
  rw [link_len]
  exact h.op e (mdel_mem he)
 ·refine ⟨⟨h.ats, h.free, h.fl, fun e he => ?_, (mput_born h.clk h.nod).2, (mput_born h.clk h.nod).1, fun e he => ?_⟩, rfl, rfl, rfl⟩
  ·rcases mput_mem he with q | q
   ·rw [q]; dsimp only; omega
   ·exact h.op e q
  ·rcases mput_key he with q | ⟨e', q, q2⟩
   ·rw [q]; exact ⟨at3_lt h0 h1 h2 _, at3_lt h0 h1 h2 _⟩
   ·rw [← q2]; exact h.key e' q
theorem joinB_ok {F : MapI} {n t : Nat} {v0 v1 v2 : Int} {s : BS} (h : bOk n s) (ht : t < s.M.tris.length) (h0 : v0 < n) (h1 : v1 < n) (h2 : v2 < n) :
  bOk n (joinB F t v0 v1 v2 s) ∧ (joinB F t v0 v1 v2 s).M.tris.length = s.M.tris.length ∧ (joinB F t v0 v1 v2 s).M.pts = s.M.pts ∧ (joinB F t v0 v1 v2 s).M.free = s.M.free := by
 obtain ⟨a1, a2, a3, a4⟩ := joinE_ok (F := F) (i := 0) h ht h0 h1 h2 (by decide)
 obtain ⟨b1, b2, b3, b4⟩ := joinE_ok (F := F) (i := 1) a1 (by rw [a2]; exact ht) h0 h1 h2 (by decide)
 obtain ⟨c1, c2, c3, c4⟩ := joinE_ok (F := F) (i := 2) b1 (by rw [b2, a2]; exact ht) h0 h1 h2 (by decide)
 exact ⟨c1, by show (joinE F t v0 v1 v2 (joinE F t v0 v1 v2 (joinE F t v0 v1 v2 s 0) 1) 2).M.tris.length = _; rw [c2, b2, a2], by show (joinE F t v0 v1 v2 (joinE F t v0 v1 v2 (joinE F t v0 v1 v2 s 0) 1) 2).M.pts = _; rw [c3, b3, a3], by show (joinE F t v0 v1 v2 (joinE F t v0 v1 v2 (joinE F t v0 v1 v2 s 0) 1) 2).M.free = _; rw [c4, b4, a4]⟩
theorem make_ok {n : Nat} {s : BS} (h : bOk n s) (a b c : Int) : 0 ≤ s.M.nextN ∧ s.M.nextN < (s.M.make a b c).tris.length ∧ s.M.tris.length ≤ (s.M.make a b c).tris.length ∧ (s.M.make a b c).tris.length ≤ s.M.tris.length + 1 ∧ bOk n ⟨s.M.make a b c, s.L, s.c⟩ := by
 have hl : s.M.tris.length ≤ (s.M.make a b c).tris.length ∧ (s.M.make a b c).tris.length ≤ s.M.tris.length + 1 := by
  unfold MD.make
  dsimp only
  split <;> simp
 have hn : 0 ≤ s.M.nextN ∧ s.M.nextN < (s.M.make a b c).tris.length := by
  unfold MD.nextN MD.make
  dsimp only
  cases hf : s.M.free.getLast? with
  | none => simp; omega
  | some k =>
   have := h.free k (List.mem_of_getLast? hf)
   simp; omega
 refine ⟨hn.1, hn.2, hl.1, hl.2, ⟨?_, fun k hk => ?_, ?_, fun e he => ?_, h.clk, h.nod, h.key⟩⟩
 ·show (setAt _ _ _).length = n
  simp [setAt_len, h.ats]
 ·have := h.free k (List.dropLast_subset _ hk)
  show _ ∧ _ < ((s.M.make a b c).tris.length : Int)
  omega
 ·show s.M.free.dropLast.length ≤ 4
  have := h.fl
  simp; omega
 ·have := h.op e he
  show (_ ∧ _ < ((s.M.make a b c).tris.length : Int)) ∧ _
  omega
def stepT (F : MapI) (s : BS) (v : Int × Int × Int) : BS := joinB F s.M.nextN.toNat v.1 v.2.1 v.2.2 ⟨s.M.make v.1 v.2.1 v.2.2, s.L, s.c⟩
theorem stepT_ok {F : MapI} {n : Nat} {s : BS} {v : Int × Int × Int} (h : bOk n s) (h0 : v.1 < n) (h1 : v.2.1 < n) (h2 : v.2.2 < n) : bOk n (stepT F s v) ∧ (stepT F s v).M.tris.length ≤ s.M.tris.length + 1 ∧ (stepT F s v).M.pts = s.M.pts := by
 obtain ⟨a1, a2, a3, a4, a5⟩ := make_ok h v.1 v.2.1 v.2.2
 obtain ⟨b1, b2, b3, _⟩ := joinB_ok (F := F) (t := s.M.nextN.toNat) a5 (by dsimp only; omega) h0 h1 h2
 exact ⟨b1, by unfold stepT; rw [b2]; exact a4, by unfold stepT; rw [b3]; rfl⟩
def mesh0 (pts : List (Int × Int)) (a b c : Int) : MD := ((((newM pts a b c).drop 0).drop 1).drop 2).drop 3
def bs0 (pts : List (Int × Int)) (a b c : Int) : BS := ⟨mesh0 pts a b c, [], 0⟩
theorem bs0_ok (pts : List (Int × Int)) (a b c : Int) : bOk pts.length (bs0 pts a b c) := by
 refine ⟨?_, ?_, ?_, (fun e he => nomatch he), (fun e he => nomatch he), List.nodup_nil, (fun e he => nomatch he)⟩
 ·show (newM pts a b c).ats.length = _
  simp [newM, newM0, MD.make, MD.link, setAt_len]
 ·intro k hk
  have hk' : k ∈ [(0 : Int), 1, 2, 3] := hk
  show 0 ≤ k ∧ k < ((4 : Nat) : Int)
  simp at hk'
  omega
 ·show 4 ≤ 4
  exact Nat.le_refl _
end Go.Proofs.Ytbanlhlggkdanaa
namespace Go.Proofs.Ytbanlhlggkdanaa
open Go.RowKit
theorem elt_47 : elt Try.prog 47 = some (34, 3, 24) := by kernel_rfl
theorem elt_149 : elt Try.prog 149 = some (46, 2, 16) := by kernel_rfl
theorem tyi_46 : tyi Try.prog 46 = some (true, 2) := by kernel_rfl
theorem ent_58 : Enter Try.prog 58 = true := by kernel_rfl
theorem zer_28 : zer Try.prog 28 = some (.pointer none) := by kernel_rfl
theorem zer_144 : zer Try.prog 144 = some (.map none) := by kernel_rfl
theorem ulen_47 : ((#[47] : Array TypeId)[0]?).bind Try.prog.underlying = some (.slice (Try.prog.elem ((#[47] : Array TypeId).getD 0 0))) := by kernel_rfl
theorem ulen_149 : ((#[149] : Array TypeId)[0]?).bind Try.prog.underlying = some (.slice (Try.prog.elem ((#[149] : Array TypeId).getD 0 0))) := by kernel_rfl
theorem zer_46 : zer Try.prog 46 = some (.agg #[.int .i64 0, .int .i64 0]) := by kernel_rfl
theorem arrt_46 : arrt Try.prog 46 = some (2, 3, 1) := by kernel_rfl
theorem born_eq {L : MapO} (hn : (L.map (·.2.2)).Nodup) {e e' : (Int × Int) × (Int × Int) × Nat} (h : e ∈ L) (h' : e' ∈ L) (hb : e.2.2 = e'.2.2) : e = e' := by
 induction L with
 | nil => cases h
 | cons x L ih =>
  rw [List.map_cons, List.nodup_cons] at hn
  rcases List.mem_cons.1 h with rfl | h1
  ·rcases List.mem_cons.1 h' with rfl | h'
   ·rfl
   ·exact absurd (hb ▸ List.mem_map.2 ⟨e', h', rfl⟩) hn.1
  ·rcases List.mem_cons.1 h' with rfl | h2
   ·exact absurd (hb ▸ List.mem_map.2 ⟨e, h1, rfl⟩) hn.1
   ·exact ih hn.2 h1 h2
theorem nodup_of_map {α β : Type} {f : α → β} : ∀ {l : List α}, (l.map f).Nodup → l.Nodup
 | [], _ => List.nodup_nil
 | x :: l, h => by
  rw [List.map_cons, List.nodup_cons] at h
  rw [List.nodup_cons]
  exact ⟨fun q => h.1 (List.mem_map.2 ⟨x, q, rfl⟩), nodup_of_map h.2⟩
theorem perm_end {L vis : MapO} (hn : (L.map (·.2.2)).Nodup) (hv : (vis.map (·.2.2)).Nodup) (hs : ∀ e, e ∈ vis → e ∈ L) (he : leftL L (vis.map (·.2.2)) = []) : vis.Perm L := by
 rw [List.perm_ext_iff_of_nodup (nodup_of_map hv) (nodup_of_map hn)]
 intro e
 refine ⟨hs e, fun h => ?_⟩
 have h1 : ¬ e ∈ leftL L (vis.map (·.2.2)) := by rw [he]; simp
 unfold leftL at h1
 rw [List.mem_filter] at h1
 have h2 : e.2.2 ∈ vis.map (·.2.2) := by
  apply Classical.byContradiction
  intro q
  exact h1 ⟨h, by simpa using q⟩
 obtain ⟨e', he', hb⟩ := List.mem_map.1 h2
 rw [born_eq hn h (hs e' he') hb.symm]
 exact he'
theorem left_lt {L : MapO} {seen : List Nat} {e : (Int × Int) × (Int × Int) × Nat} (h : e ∈ leftL L seen) : (leftL L (seen ++ [e.2.2])).length < (leftL L seen).length := by
 have e1 : leftL L (seen ++ [e.2.2]) = (leftL L seen).filter (fun x => !(x.2.2 == e.2.2)) := by
  unfold leftL
  rw [List.filter_filter]
  congr 1
  funext x
  simp only [List.contains_append, List.contains_cons, List.contains_nil, Bool.or_false, Bool.not_or]
  exact Bool.and_comm _ _
 rw [e1]
 exact List.length_filter_lt_length_iff_exists.2 ⟨e, h, by simp⟩
theorem left_mem {L : MapO} {seen : List Nat} {e : (Int × Int) × (Int × Int) × Nat} (h : e ∈ leftL L seen) : e ∈ L ∧ ¬ e.2.2 ∈ seen := by
 unfold leftL at h
 rw [List.mem_filter] at h
 exact ⟨h.1, by simpa using h.2⟩
def buildR (F : MapI) (pts : List (Int × Int)) (a b c : Int) (tris : List (Int × Int × Int)) : BS := tris.foldl (stepT F) (bs0 pts a b c)
def stepG (F : MapI) (s : BS) (e : (Int × Int) × (Int × Int) × Nat) : BS := stepT F s (e.1.2, e.1.1, -1)
def buildG (F : MapI) (s : BS) (border : MapO) : BS := border.foldl (stepG F) s
theorem mput_len {κ ν : Type} [DecidableEq κ] {k : κ} {v : ν} {l : List (κ × ν × Nat)} {c : Nat} : (mput k v l c).length ≤ l.length + 1 := by
 unfold mput
 split <;> simp
theorem mdel_len {κ ν : Type} [DecidableEq κ] {k : κ} {l : List (κ × ν × Nat)} : (mdel k l).length ≤ l.length := by
 unfold mdel
 split
 ·exact (List.eraseIdx_sublist _ _).length_le
 ·exact Nat.le_refl _
theorem joinE_L {F : MapI} {t : Nat} {v0 v1 v2 : Int} {s : BS} {i : Nat} : (joinE F t v0 v1 v2 s i).L.length ≤ s.L.length + 1 := by
 unfold joinE
 split
 ·exact Nat.le_succ_of_le mdel_len
 ·exact mput_len
theorem foldR_L {F : MapI} : ∀ (l : List (Int × Int × Int)) {s : BS}, (l.foldl (stepT F) s).L.length ≤ s.L.length + 3 * l.length
 | [], s => by simp
 | v :: l, s => by
  have h1 := foldR_L (F := F) l (s := stepT F s v)
  have h2 : (stepT F s v).L.length ≤ s.L.length + 3 := by
   show (joinE F _ _ _ _ (joinE F _ _ _ _ (joinE F _ _ _ _ _ 0) 1) 2).L.length ≤ _
   exact Nat.le_trans joinE_L (Nat.succ_le_succ (Nat.le_trans joinE_L (Nat.succ_le_succ joinE_L)))
  rw [List.foldl_cons, List.length_cons]
  omega
theorem take_step {α : Type} {l : List α} {k : Nat} {x : α} {β : Type} (g : β → α → β) (b : β) (h : l[k]? = some x) : (l.take (k + 1)).foldl g b = g ((l.take k).foldl g b) x := by
 rw [List.take_add_one, h, List.foldl_append]; rfl
theorem get_at {α : Type} {l : List α} {k : Nat} (h : ((k : Nat) : Int) < (l.length : Nat)) : ∃ x, l[k]? = some x := ⟨l[k]'(by omega), List.getElem?_eq_getElem (by omega)⟩
theorem newM_len (pts : List (Int × Int)) (a b c : Int) : (newM pts a b c).tris.length = 4 := rfl
theorem newM_free (pts : List (Int × Int)) (a b c : Int) : (newM pts a b c).free = [] := rfl
def buildFs (A TA : Option Addr) (rf : Nat) (pts : List (Int × Int)) (tris : List (Int × Int × Int)) (F : MapI) (cF : Nat) : List Res := [sliceR 2 A pts.length (ptCells pts), sliceR 3 TA tris.length (t3Cells tris), mapR rf fK gI F cF]
set_option maxRecDepth 100000 in
set_option maxHeartbeats 16000000 in
theorem build_c {A TA : Option Addr} {pts : List (Int × Int)} {cp cT rf a b c : Nat} {rest : List (Int × Int × Int)} {F : MapI} {cF : Nat} (hpl : pts.length ≤ 100000) (hrl : rest.length ≤ 100000) (hv1 : ∀ x, x ∈ [(a, b, c)] → x.1 < pts.length ∧ x.2.1 < pts.length ∧ x.2.2 < pts.length) (hv : ∀ x, x ∈ rest → x.1 < pts.length ∧ x.2.1 < pts.length ∧ x.2.2 < pts.length) (hP : ∀ j, j < pts.length → P2 (pts.getD j (0, 0)).1 (pts.getD j (0, 0)).2) (hA : 0 < pA pts a b c) : Tri Try.prog 58 [.slice A pts.length cp, .slice TA (((a : Int), (b : Int), (c : Int)) :: rest).length cT, .map (some rf)] [] (buildFs A TA rf pts (((a : Int), (b : Int), (c : Int)) :: rest) F cF) (RetX (fun (x : Nat × MapO) => x.2.Perm (buildR F pts a b c (((a : Int), (b : Int), (c : Int)) :: rest)).L) (fun x => .pointer (some ⟨x.1, 0, none⟩)) (fun x => [meshR x.1 (buildG F (buildR F pts a b c (((a : Int), (b : Int), (c : Int)) :: rest)) x.2).M]) (fun _ => [])) := by
 refine Tri_of (N := 104) Try.func58 rfl ent_58 rfl rfl ?_
 intro w0 S0 T0
 show CJ _ _ _ [(0, _), (1, _), (2, _)] _ _
 have hva : ∀ x, x ∈ (((a : Int), (b : Int), (c : Int)) :: rest) → x.1 < pts.length ∧ x.2.1 < pts.length ∧ x.2.2 < pts.length := by
  intro x hx
  rcases List.mem_cons.1 hx with rfl | hx
  ·have := hv1 _ (.head _); dsimp only at this ⊢; omega
  ·exact hv x hx
 have hp0 : 0 < pts.length := by have := (hv1 _ (.head _)).1; omega
 have hTL : (((a : Int), (b : Int), (c : Int)) :: rest).length ≤ 100001 := by simp; omega
 refine CJ_seq ?_
 refine CJ_reg ?_
 refine LJ_box (cs := #[_]) rfl rfl rfl rfl ?_
 intro b1
 refine LJ_freeze ?_
 refine LJ_addF (r' := sliceR 1 (some ⟨b1, 0, none⟩) 1 [.map (some rf)]) (.head _) (fun w S h => cellsR_slice (n := 1) rfl w S h) ?_
 refine LJ_y rfl rfl (YJ_assign rfl) ?_
 refine LJ_nil ?_
 refine QJ_then ?_
 refine CJ_seq ?_
 refine CJ_regDA mix (by kernel_rfl) (fun _ _ _ _ _ h => h) _ _ (fun _ h => h) (fun _ h => h) [⟨17, 7, 28, #[.pointer none]⟩] 19 rfl (And.intro ⟨_, _, _, _, rfl, zer_28, rfl⟩ (trivial)) rfl rfl ?_
 refine AA_y 0 rfl (by kernel_rfl) rfl rfl rfl (YJ_move rfl) ?_
 refine AA_y 1 rfl (by kernel_rfl) rfl rfl rfl (YJ_move rfl) ?_
 refine AA_y 2 rfl (by kernel_rfl) rfl rfl rfl (YJ_ixFact (n' := (((a : Int), (b : Int), (c : Int)) :: rest).length) rfl rfl elt_47 m3 (by decide) (by omega) (by simp only [List.length_cons]; omega) (by simp only [List.length_cons]; omega)) ?_
 refine AA_y 3 rfl (by kernel_rfl) rfl rfl rfl (YJ_ixArrP rfl rfl arrt_34 (by omega) (by omega)) ?_
 refine AA_y 4 rfl (by kernel_rfl) rfl rfl rfl (YJ_loadFactP (A := TA) (j := (0 : Int).toNat * 3 + (0 : Int).toNat * 1) (xs := t3Cells (((a : Int), (b : Int), (c : Int)) :: rest)) rfl (Addr.add_add ..) tyi_3 m3 rfl) ?_
 refine AA_y 5 rfl (by kernel_rfl) rfl rfl rfl (YJ_move rfl) ?_
 refine AA_y 6 rfl (by kernel_rfl) rfl rfl rfl (YJ_ixFact (n' := (((a : Int), (b : Int), (c : Int)) :: rest).length) rfl rfl elt_47 m3 (by decide) (by omega) (by simp only [List.length_cons]; omega) (by simp only [List.length_cons]; omega)) ?_
 refine AA_y 7 rfl (by kernel_rfl) rfl rfl rfl (YJ_ixArrP rfl rfl arrt_34 (by omega) (by omega)) ?_
 refine AA_y 8 rfl (by kernel_rfl) rfl rfl rfl (YJ_loadFactP (A := TA) (j := (0 : Int).toNat * 3 + (1 : Int).toNat * 1) (xs := t3Cells (((a : Int), (b : Int), (c : Int)) :: rest)) rfl (Addr.add_add ..) tyi_3 m3 rfl) ?_
 refine AA_y 9 rfl (by kernel_rfl) rfl rfl rfl (YJ_move rfl) ?_
 refine AA_y 10 rfl (by kernel_rfl) rfl rfl rfl (YJ_ixFact (n' := (((a : Int), (b : Int), (c : Int)) :: rest).length) rfl rfl elt_47 m3 (by decide) (by omega) (by simp only [List.length_cons]; omega) (by simp only [List.length_cons]; omega)) ?_
 refine AA_y 11 rfl (by kernel_rfl) rfl rfl rfl (YJ_ixArrP rfl rfl arrt_34 (by omega) (by omega)) ?_
 refine AA_y 12 rfl (by kernel_rfl) rfl rfl rfl (YJ_loadFactP (A := TA) (j := (0 : Int).toNat * 3 + (2 : Int).toNat * 1) (xs := t3Cells (((a : Int), (b : Int), (c : Int)) :: rest)) rfl (Addr.add_add ..) tyi_3 m3 rfl) ?_
 refine AA_callN 13 rfl (by kernel_rfl) rfl rfl rfl rfl rfl rfl rfl (new_pos (pts := pts) (a := a) (b := b) (c := c) hpl (hv1 _ (.head _)).1 (hv1 _ (.head _)).2.1 (hv1 _ (.head _)).2.2 hP hA) (fun r h => by rw [List.mem_singleton] at h; subst h; simp [buildFs]) ?_
 intro Bm _
 refine AA_y 14 rfl (by kernel_rfl) rfl rfl rfl (YJ_move rfl) ?_
 refine AA_y 15 rfl (by kernel_rfl) rfl rfl rfl (YJ_extract rfl rfl) ?_
 refine AA_y 16 rfl (by kernel_rfl) rfl rfl rfl (YJ_extract rfl rfl) ?_
 refine AA_end (by kernel_rfl) rfl ?_
 intro bs hbs
 obtain ⟨b2, rfl⟩ := len_1 hbs
 clear hbs
 show AJ _ _ _ _ _ _ _ ((7, .pointer (some ⟨b2, 0, none⟩)) :: _) (cellsR b2 _ _ :: _) _
 refine AJ_store (cs' := #[_]) (μ' := [_, _]) 18 0 rfl (by kernel_rfl) rfl rfl rfl rfl tyi_28 rfl (Nat.le_of_ble_eq_true rfl) rfl rfl rfl (fun _ => AllIn.sub (trivial)) ?_
 refine AJ_y 19 rfl (by kernel_rfl) (by kernel_rfl) rfl rfl (YJ_assign rfl) ?_
 refine AJ_done (by kernel_rfl) ?_
 refine QJ_then ?_
 refine CJ_seq ?_
 refine CJ_seq ?_
 refine CJ_reg ?_
 refine LJ_y rfl rfl (YJ_move rfl) ?_
 refine LJ_y rfl rfl (YJ_not rfl) ?_
 refine LJ_nil ?_
 refine QJ_then ?_
 refine CJ_condF rfl ?_
 refine CJ_skip ?_
 refine QJ_then ?_
 refine CJ_seq ?_
 refine CJ_seq ?_
 refine CJ_openAt (f := meshL Bm (newM pts a b c)) 1 rfl (fun hd => ?_)
 obtain ⟨P9, cP9, T9, cT9, F9, cF9, A9, cA9⟩ := hd
 show CJ _ _ _ _ (_ :: _ :: _ :: _ :: _ :: _ :: _) _
 refine CJ_reg ?_
 refine LJ_y rfl rfl (YJ_loadL rfl tyi_28 m5 rfl) ?_
 refine LJ_y rfl rfl (YJ_nilCheck rfl) ?_
 refine LJ_y rfl rfl (YJ_fieldOwn rfl fld_57_1 rfl) ?_
 refine LJ_y rfl rfl (YJ_loadL rfl tyi_54 m0 rfl) ?_
 refine LJ_y rfl rfl (YJ_len rfl ulen_54 rfl) ?_
 refine LJ_val (v := .int .i64 4) (rfl) ?_
 refine LJ_closeMesh (newM pts a b c) (μr := [_]) (permI [] rfl) ⟨rfl, rfl⟩ ⟨rfl, rfl⟩ ⟨rfl, rfl⟩ ⟨rfl, rfl⟩ ?_
 refine LJ_y rfl rfl (YJ_move rfl) ?_
 refine LJ_nil ?_
 refine QJ_then ?_
 refine CJ_block ?_
 refine CJ_loopN 5 ?_
 refine CN_succ ?_
 refine CJ_seq ?_
 refine CJ_reg ?_
 refine LJ_y rfl rfl (YJ_bin rfl rfl rfl) ?_
 refine LJ_nil ?_
 refine QJ_then ?_
 refine CJ_seq ?_
 refine CJ_condT rfl ?_
 refine CJ_skip ?_
 refine QJ_then ?_
 refine CJ_seq ?_
 refine CJ_block ?_
 refine CJ_seq ?_
 refine CJ_reg ?_
 refine LJ_y rfl rfl (YJ_move rfl) ?_
 refine LJ_y rfl rfl (YJ_assign rfl) ?_
 refine LJ_nil ?_
 refine QJ_then ?_
 refine CJ_reg ?_
 refine LJ_y rfl rfl (YJ_loadL rfl tyi_28 m1 rfl) ?_
 refine LJ_y rfl rfl (YJ_move rfl) ?_
 refine LJ_val (v := .int .i64 ((0 : Nat) : Int)) (rfl) ?_
 refine LJ_call1 0 rfl rfl rfl rfl rfl rfl (drop_c (t := 0) (by simp [MD.drop, newM_len, newM_free]; try omega) (by simp [MD.drop, newM_len, newM_free]; try omega) (by simp [MD.drop, newM_len, newM_free]; try omega)) (fun _ h => nomatch h) ?_
 show LJ _ _ _ _ _ (_ :: _ :: _) _
 refine LJ_nil ?_
 refine QJ_in_normal ?_
 refine QJ_then ?_
 refine CJ_reg ?_
 refine LJ_y rfl rfl (YJ_bin rfl rfl (iop_add (by omega))) ?_
 refine LJ_y rfl rfl (YJ_move rfl) ?_
 refine LJ_nil ?_
 refine QJ_thenN ?_
 refine CN_succ ?_
 refine CJ_seq ?_
 refine CJ_reg ?_
 refine LJ_y rfl rfl (YJ_bin rfl rfl rfl) ?_
 refine LJ_nil ?_
 refine QJ_then ?_
 refine CJ_seq ?_
 refine CJ_condT rfl ?_
 refine CJ_skip ?_
 refine QJ_then ?_
 refine CJ_seq ?_
 refine CJ_block ?_
 refine CJ_seq ?_
 refine CJ_reg ?_
 refine LJ_y rfl rfl (YJ_move rfl) ?_
 refine LJ_y rfl rfl (YJ_assign rfl) ?_
 refine LJ_nil ?_
 refine QJ_then ?_
 refine CJ_reg ?_
 refine LJ_y rfl rfl (YJ_loadL rfl tyi_28 m1 rfl) ?_
 refine LJ_y rfl rfl (YJ_move rfl) ?_
 refine LJ_val (v := .int .i64 ((1 : Nat) : Int)) (rfl) ?_
 refine LJ_call1 0 rfl rfl rfl rfl rfl rfl (drop_c (t := 1) (by simp [MD.drop, newM_len, newM_free]; try omega) (by simp [MD.drop, newM_len, newM_free]; try omega) (by simp [MD.drop, newM_len, newM_free]; try omega)) (fun _ h => nomatch h) ?_
 show LJ _ _ _ _ _ (_ :: _ :: _) _
 refine LJ_nil ?_
 refine QJ_in_normal ?_
 refine QJ_then ?_
 refine CJ_reg ?_
 refine LJ_y rfl rfl (YJ_bin rfl rfl (iop_add (by omega))) ?_
 refine LJ_y rfl rfl (YJ_move rfl) ?_
 refine LJ_nil ?_
 refine QJ_thenN ?_
 refine CN_succ ?_
 refine CJ_seq ?_
 refine CJ_reg ?_
 refine LJ_y rfl rfl (YJ_bin rfl rfl rfl) ?_
 refine LJ_nil ?_
 refine QJ_then ?_
 refine CJ_seq ?_
 refine CJ_condT rfl ?_
 refine CJ_skip ?_
 refine QJ_then ?_
 refine CJ_seq ?_
 refine CJ_block ?_
 refine CJ_seq ?_
 refine CJ_reg ?_
 refine LJ_y rfl rfl (YJ_move rfl) ?_
 refine LJ_y rfl rfl (YJ_assign rfl) ?_
 refine LJ_nil ?_
 refine QJ_then ?_
 refine CJ_reg ?_
 refine LJ_y rfl rfl (YJ_loadL rfl tyi_28 m1 rfl) ?_
 refine LJ_y rfl rfl (YJ_move rfl) ?_
 refine LJ_val (v := .int .i64 ((2 : Nat) : Int)) (rfl) ?_
 refine LJ_call1 0 rfl rfl rfl rfl rfl rfl (drop_c (t := 2) (by simp [MD.drop, newM_len, newM_free]; try omega) (by simp [MD.drop, newM_len, newM_free]; try omega) (by simp [MD.drop, newM_len, newM_free]; try omega)) (fun _ h => nomatch h) ?_
 show LJ _ _ _ _ _ (_ :: _ :: _) _
 refine LJ_nil ?_
 refine QJ_in_normal ?_
 refine QJ_then ?_
 refine CJ_reg ?_
 refine LJ_y rfl rfl (YJ_bin rfl rfl (iop_add (by omega))) ?_
 refine LJ_y rfl rfl (YJ_move rfl) ?_
 refine LJ_nil ?_
 refine QJ_thenN ?_
 refine CN_succ ?_
 refine CJ_seq ?_
 refine CJ_reg ?_
 refine LJ_y rfl rfl (YJ_bin rfl rfl rfl) ?_
 refine LJ_nil ?_
 refine QJ_then ?_
 refine CJ_seq ?_
 refine CJ_condT rfl ?_
 refine CJ_skip ?_
 refine QJ_then ?_
 refine CJ_seq ?_
 refine CJ_block ?_
 refine CJ_seq ?_
 refine CJ_reg ?_
 refine LJ_y rfl rfl (YJ_move rfl) ?_
 refine LJ_y rfl rfl (YJ_assign rfl) ?_
 refine LJ_nil ?_
 refine QJ_then ?_
 refine CJ_reg ?_
 refine LJ_y rfl rfl (YJ_loadL rfl tyi_28 m1 rfl) ?_
 refine LJ_y rfl rfl (YJ_move rfl) ?_
 refine LJ_val (v := .int .i64 ((3 : Nat) : Int)) (rfl) ?_
 refine LJ_call1 0 rfl rfl rfl rfl rfl rfl (drop_c (t := 3) (by simp [MD.drop, newM_len, newM_free]; try omega) (by simp [MD.drop, newM_len, newM_free]; try omega) (by simp [MD.drop, newM_len, newM_free]; try omega)) (fun _ h => nomatch h) ?_
 show LJ _ _ _ _ _ (_ :: _ :: _) _
 refine LJ_nil ?_
 refine QJ_in_normal ?_
 refine QJ_then ?_
 refine CJ_reg ?_
 refine LJ_y rfl rfl (YJ_bin rfl rfl (iop_add (by omega))) ?_
 refine LJ_y rfl rfl (YJ_move rfl) ?_
 refine LJ_nil ?_
 refine QJ_thenN ?_
 refine CN_succ ?_
 refine CJ_seq ?_
 refine CJ_reg ?_
 refine LJ_y rfl rfl (YJ_bin rfl rfl rfl) ?_
 refine LJ_nil ?_
 refine QJ_then ?_
 refine CJ_seq ?_
 refine CJ_condF rfl ?_
 refine CJ_exit ?_
 refine QJ_then_exit ?_
 refine QJ_then_exit ?_
 refine QJ_in_exit ?_
 refine QJ_then ?_
 refine CJ_seq ?_
 refine CJ_reg ?_
 refine LJ_makeMap rfl rfl ?_
 intro om
 refine LJ_alloc (cs := #[_]) rfl rfl zer_144 rfl ?_
 intro b4
 refine LJ_store (cs' := #[_]) (μ' := [_, _, _, _]) 0 rfl rfl rfl rfl tyi_144 rfl (Nat.le_of_ble_eq_true rfl) rfl rfl rfl ?_
 refine LJ_freeze ?_
 refine LJ_addF (r' := sliceR 1 (some ⟨b4, 0, none⟩) 1 [.map (some om)]) (.head _) (fun w S h => cellsR_slice (n := 1) rfl w S h) ?_
 refine LJ_nil ?_
 refine QJ_then ?_
 refine CJ_seq ?_
 refine CJ_freezeCells (size := 1) (n := 1) (xs := [.pointer (some ⟨Bm, 0, none⟩)]) 2 rfl rfl rfl ?_
 show CJ _ _ _ _ (_ :: _ :: _) _
 refine CJ_reg ?_
 refine LJ_y rfl rfl (YJ_makeFunc (vs := []) (us := [_, _, _]) rfl rfl) ?_
 refine LJ_y rfl rfl (YJ_assign rfl) ?_
 refine LJ_nil ?_
 refine QJ_then ?_
 refine CJ_seq ?_
 refine CJ_seq ?_
 refine CJ_reg ?_
 refine LJ_y rfl rfl (YJ_move rfl) ?_
 refine LJ_y rfl rfl (YJ_len rfl ulen_47 rfl) ?_
 refine LJ_y rfl rfl (YJ_move rfl) ?_
 refine LJ_nil ?_
 refine QJ_then ?_
 refine CJ_block ?_
 refine CJ_loopF (F := fun (i : Nat × BS) => ⟨[(1, .slice TA (((a : Int), (b : Int), (c : Int)) :: rest).length cT), (7, .pointer (some ⟨b2, 0, none⟩)), (10, .pointer (some ⟨b4, 0, none⟩)), (11, .func (.func 86) #[] #[.pointer (some ⟨b4, 0, none⟩), .pointer (some ⟨b2, 0, none⟩), .pointer (some ⟨b1, 0, none⟩)]), (52, .slice TA (((a : Int), (b : Int), (c : Int)) :: rest).length cT), (53, .int .i64 (((a : Int), (b : Int), (c : Int)) :: rest).length), (54, .int .i64 (i.1 : Nat))], [mapR om fK fK i.2.L i.2.c, meshR Bm i.2.M], []⟩) (I := fun (i : Nat × BS) => i.1 ≤ (((a : Int), (b : Int), (c : Int)) :: rest).length ∧ i.2 = ((((a : Int), (b : Int), (c : Int)) :: rest).take i.1).foldl (stepT F) (bs0 pts a b c) ∧ bOk pts.length i.2 ∧ i.2.M.tris.length ≤ 4 + i.1) (m := fun (i : Nat × BS) => (((a : Int), (b : Int), (c : Int)) :: rest).length - i.1) (0, bs0 pts a b c) (μr := []) ⟨Nat.zero_le _, rfl, bs0_ok pts a b c, Nat.le_refl _⟩ (And.intro rfl (And.intro rfl (And.intro rfl (And.intro rfl (And.intro rfl (And.intro rfl (And.intro rfl (trivial)))))))) (permI [] rfl) (fun _ h => nomatch h) ?_
 rintro ⟨k, s⟩ ⟨hk, hs, hb, hl⟩
 try dsimp only at hk
 try dsimp only at hs
 try dsimp only at hb
 try dsimp only at hl
 show CJ _ _ _ [(1, .slice TA (((a : Int), (b : Int), (c : Int)) :: rest).length cT), (7, .pointer (some ⟨b2, 0, none⟩)), (10, .pointer (some ⟨b4, 0, none⟩)), (11, .func (.func 86) #[] #[.pointer (some ⟨b4, 0, none⟩), .pointer (some ⟨b2, 0, none⟩), .pointer (some ⟨b1, 0, none⟩)]), (52, .slice TA (((a : Int), (b : Int), (c : Int)) :: rest).length cT), (53, .int .i64 (((a : Int), (b : Int), (c : Int)) :: rest).length), (54, .int .i64 (k : Nat))] (mapR om fK fK s.L s.c :: meshR Bm s.M :: _) _
 refine CJ_seq ?_
 refine CJ_reg ?_
 refine LJ_y rfl rfl (YJ_bin rfl rfl rfl) ?_
 refine LJ_nil ?_
 refine QJ_then ?_
 refine CJ_seq ?_
 refine CJ_cond rfl (fun h55 => ?_) (fun h55 => ?_)
 ·simp only [decide_eq_true_eq] at h55
  obtain ⟨x, hx⟩ := get_at h55
  have hxm := hva x (List.mem_of_getElem? hx)
  obtain ⟨hx0, hx1, hx2⟩ := hxm
  obtain ⟨hn0, hn1, hm0, hm1, hmk⟩ := make_ok hb (x.1) (x.2.1) (x.2.2)
  refine CJ_skip ?_
  refine QJ_then ?_
  refine CJ_seq ?_
  refine CJ_block ?_
  refine CJ_seq ?_
  refine CJ_reg ?_
  refine LJ_y rfl rfl (YJ_ixFact (n' := (((a : Int), (b : Int), (c : Int)) :: rest).length) rfl rfl elt_47 m6 (by decide) (by omega) (by omega) (by omega)) ?_
  refine LJ_y rfl rfl (YJ_loadFactN (vs := [.int .i64 x.1, .int .i64 x.2.1, .int .i64 x.2.2]) (xs := t3Cells (((a : Int), (b : Int), (c : Int)) :: rest)) rfl tyi_34 m6 (t3_row hx) rfl) ?_
  refine LJ_alloc (cs := #[_, _, _]) rfl rfl zer_34 rfl ?_
  intro b5
  refine LJ_store (cs' := #[_, _, _]) (μ' := [_, _, _]) 0 rfl rfl rfl rfl tyi_34 rfl (Nat.le_of_ble_eq_true rfl) rfl rfl rfl ?_
  refine LJ_nil ?_
  refine QJ_then ?_
  refine CJ_regD mix (by kernel_rfl) (fun _ _ _ _ _ h => h) (selR [0] _) _ (selR_sub _ _) (fun _ h => h) ?_
  refine AJ_y 0 rfl (by kernel_rfl) (by kernel_rfl) rfl rfl (YJ_move rfl) ?_
  refine AJ_y 1 rfl (by kernel_rfl) (by kernel_rfl) rfl rfl (YJ_loadFactP (A := some ⟨b2, 0, none⟩) (j := 0) rfl rfl tyi_28 m0 rfl) ?_
  refine AJ_y 2 rfl (by kernel_rfl) (by kernel_rfl) rfl rfl (YJ_ixArr rfl rfl arrt_34 (by omega) (by omega) rfl) ?_
  refine AJ_y 3 rfl (by kernel_rfl) (by kernel_rfl) rfl rfl (YJ_loadL rfl tyi_3 m0 rfl) ?_
  refine AJ_y 4 rfl (by kernel_rfl) (by kernel_rfl) rfl rfl (YJ_ixArr rfl rfl arrt_34 (by omega) (by omega) rfl) ?_
  refine AJ_y 5 rfl (by kernel_rfl) (by kernel_rfl) rfl rfl (YJ_loadL rfl tyi_3 m0 rfl) ?_
  refine AJ_y 6 rfl (by kernel_rfl) (by kernel_rfl) rfl rfl (YJ_ixArr rfl rfl arrt_34 (by omega) (by omega) rfl) ?_
  refine AJ_y 7 rfl (by kernel_rfl) (by kernel_rfl) rfl rfl (YJ_loadL rfl tyi_3 m0 rfl) ?_
  refine AJ_y 9 rfl (by kernel_rfl) (by kernel_rfl) rfl rfl (YJ_loadN (vs := [_, _, _]) rfl tyi_34 m0 rfl rfl) ?_
  refine AJ_call1 8 2 rfl (by kernel_rfl) rfl rfl rfl rfl rfl rfl (make_c (a := x.1) (b := x.2.1) (c := x.2.2) (by omega) (by have := hb.fl; omega) hb.free (by rw [hb.ats]; omega) (by rw [hb.ats]; omega) (by rw [hb.ats]; omega) (by rw [hb.ats]; exact hp0)) (fun _ h => nomatch h) (AllIn.sub (And.intro m0 (trivial))) ?_
  show AJ _ _ _ _ _ _ _ _ (_ :: _ :: _ :: _) _
  refine AJ_val (v := .int .i64 ((s.M.nextN.toNat : Nat) : Int)) (congrArg (Value.int .i64) (by omega)) ?_
  refine AJ_callP (μ1 := [_, _]) (μr := [_]) 10 rfl (by kernel_rfl) (permI [1, 1] rfl) rfl rfl rfl rfl rfl (join_c (bo := b4) (ro := om) (bm := b2) (B := Bm) (bf := b1) (rf := rf) (F := F) (cF := cF) (n := s.M.nextN.toNat) (s0 := ⟨s.M.make (x.1) (x.2.1) (x.2.2), s.L, s.c⟩) (by dsimp only; omega) (by dsimp only; omega) hmk.op) (fun r hr => by simp only [joinFs, buildFs, List.mem_cons, List.not_mem_nil, or_false, List.append_assoc, List.cons_append, List.nil_append] at *; grind) (fun _ => AllIn.sub (And.intro m2 (trivial))) ?_
  intro _ _
  show AJ _ _ _ _ _ _ _ _ (_ :: _ :: _ :: _) _
  refine AJ_done (by kernel_rfl) ?_
  refine QJ_in_normal ?_
  refine QJ_then ?_
  refine CJ_reg ?_
  refine LJ_y rfl rfl (YJ_bin rfl rfl (iop_add (by omega))) ?_
  refine LJ_y rfl rfl (YJ_move rfl) ?_
  refine LJ_nil ?_
  refine QJ_roundF (F := fun (i : Nat × BS) => ⟨[(1, .slice TA (((a : Int), (b : Int), (c : Int)) :: rest).length cT), (7, .pointer (some ⟨b2, 0, none⟩)), (10, .pointer (some ⟨b4, 0, none⟩)), (11, .func (.func 86) #[] #[.pointer (some ⟨b4, 0, none⟩), .pointer (some ⟨b2, 0, none⟩), .pointer (some ⟨b1, 0, none⟩)]), (52, .slice TA (((a : Int), (b : Int), (c : Int)) :: rest).length cT), (53, .int .i64 (((a : Int), (b : Int), (c : Int)) :: rest).length), (54, .int .i64 (i.1 : Nat))], [mapR om fK fK i.2.L i.2.c, meshR Bm i.2.M], []⟩) (I := fun (i : Nat × BS) => i.1 ≤ (((a : Int), (b : Int), (c : Int)) :: rest).length ∧ i.2 = ((((a : Int), (b : Int), (c : Int)) :: rest).take i.1).foldl (stepT F) (bs0 pts a b c) ∧ bOk pts.length i.2 ∧ i.2.M.tris.length ≤ 4 + i.1) (m := fun (i : Nat × BS) => (((a : Int), (b : Int), (c : Int)) :: rest).length - i.1) (i := (k, s)) ((k + 1, stepT F s x)) (μd := [_]) ⟨by omega, by dsimp only; rw [take_step _ _ hx, ← hs], (stepT_ok hb hx0 hx1 hx2).1, by have := (stepT_ok (F := F) hb hx0 hx1 hx2).2.1; dsimp only; omega⟩ (by dsimp only; omega) (And.intro rfl (And.intro rfl (And.intro rfl (And.intro rfl (And.intro rfl (And.intro rfl (And.intro rfl (trivial)))))))) (permI [] rfl) (fun _ h => nomatch h) (fun _ h => h)
 ·simp only [decide_eq_false_iff_not] at h55
  have hk9 : k = (((a : Int), (b : Int), (c : Int)) :: rest).length := by omega
  have hs9 : s = buildR F pts a b c (((a : Int), (b : Int), (c : Int)) :: rest) := by rw [hs, hk9, List.take_length]; rfl
  subst hs9
  have hbR := hb
  have hLl : (buildR F pts a b c (((a : Int), (b : Int), (c : Int)) :: rest)).L.length ≤ 3 * (((a : Int), (b : Int), (c : Int)) :: rest).length := by have := foldR_L (F := F) (s := bs0 pts a b c) (((a : Int), (b : Int), (c : Int)) :: rest); have h0 : (bs0 pts a b c).L.length = 0 := rfl; rw [h0] at this; rw [Nat.zero_add] at this; exact this
  refine CJ_exit ?_
  refine QJ_then_exit ?_
  refine QJ_then_exit ?_
  refine QJ_in_exit ?_
  refine QJ_then ?_
  refine CJ_seq ?_
  refine CJ_newRow 46 2 ?_
  refine CJ_reg ?_
  refine LJ_y rfl rfl (YJ_assign rfl) ?_
  refine LJ_nil ?_
  refine QJ_then ?_
  refine CJ_seq ?_
  refine CJ_seq ?_
  refine CJ_reg ?_
  refine LJ_y rfl rfl (YJ_loadFactP (A := some ⟨b4, 0, none⟩) (j := 0) rfl rfl tyi_144 m1 rfl) ?_
  refine LJ_range (f := fK) (g := fK) rfl rfl rfl umap_144 (MapAt_own (l := (buildR F pts a b c (((a : Int), (b : Int), (c : Int)) :: rest)).L) (c := (buildR F pts a b c (((a : Int), (b : Int), (c : Int)) :: rest)).c) m1) ?_
  intro it
  refine LJ_nil ?_
  refine QJ_then ?_
  refine CJ_block ?_
  refine CJ_loopF (F := fun (i : MapO × List Nat × Nat × Option Addr × Nat) => ⟨[(1, .slice TA (((a : Int), (b : Int), (c : Int)) :: rest).length cT), (7, .pointer (some ⟨b2, 0, none⟩)), (10, .pointer (some ⟨b4, 0, none⟩)), (11, .func (.func 86) #[] #[.pointer (some ⟨b4, 0, none⟩), .pointer (some ⟨b2, 0, none⟩), .pointer (some ⟨b1, 0, none⟩)]), (14, .slice i.2.2.2.1 i.2.2.1 i.2.2.2.2), (71, .pointer (some ⟨it, 0, none⟩))], [itR it om (buildR F pts a b c (((a : Int), (b : Int), (c : Int)) :: rest)).c i.2.1 (buildR F pts a b c (((a : Int), (b : Int), (c : Int)) :: rest)).c, rowR 46 2 i.2.2.2.1 i.2.2.1 i.2.2.2.2 (kCells i.1)], []⟩) (I := fun (i : MapO × List Nat × Nat × Option Addr × Nat) => i.2.1 = i.1.map (·.2.2) ∧ i.2.2.1 = i.1.length ∧ (i.1.map (·.2.2)).Nodup ∧ (∀ e, e ∈ i.1 → e ∈ (buildR F pts a b c (((a : Int), (b : Int), (c : Int)) :: rest)).L) ∧ (leftL (buildR F pts a b c (((a : Int), (b : Int), (c : Int)) :: rest)).L i.2.1).length + i.1.length ≤ (buildR F pts a b c (((a : Int), (b : Int), (c : Int)) :: rest)).L.length) (m := fun (i : MapO × List Nat × Nat × Option Addr × Nat) => (leftL (buildR F pts a b c (((a : Int), (b : Int), (c : Int)) :: rest)).L i.2.1).length) ([], [], 0, none, 0) (μr := [_, _]) ⟨rfl, rfl, List.nodup_nil, (fun _ h => nomatch h), List.length_filter_le _ _⟩ (And.intro rfl (And.intro rfl (And.intro rfl (And.intro rfl (And.intro rfl (And.intro rfl (trivial))))))) (permI [] rfl) (fun _ h => nomatch h) ?_
  rintro ⟨vis, seen, nv, A0, c0⟩ ⟨hse, hnv, hvn, hvs, hvl⟩
  try dsimp only at hse
  try dsimp only at hnv
  try dsimp only at hvn
  try dsimp only at hvs
  try dsimp only at hvl
  show CJ _ _ _ [(1, .slice TA (((a : Int), (b : Int), (c : Int)) :: rest).length cT), (7, .pointer (some ⟨b2, 0, none⟩)), (10, .pointer (some ⟨b4, 0, none⟩)), (11, .func (.func 86) #[] #[.pointer (some ⟨b4, 0, none⟩), .pointer (some ⟨b2, 0, none⟩), .pointer (some ⟨b1, 0, none⟩)]), (14, .slice A0 nv c0), (71, .pointer (some ⟨it, 0, none⟩))] (itR it om (buildR F pts a b c (((a : Int), (b : Int), (c : Int)) :: rest)).c seen (buildR F pts a b c (((a : Int), (b : Int), (c : Int)) :: rest)).c :: rowR 46 2 A0 nv c0 (kCells vis) :: _ :: _ :: _) _
  refine CJ_seq ?_
  refine CJ_reg ?_
  refine LJ_next (f := fK) (g := fK) 0 rfl rfl rfl rfl (MapAt_own (l := (buildR F pts a b c (((a : Int), (b : Int), (c : Int)) :: rest)).L) (c := (buildR F pts a b c (((a : Int), (b : Int), (c : Int)) :: rest)).c) m2) hb.clk (Nat.le_refl _) (fun h72 => ?_) (fun e72 he72 => ?_)
  ·show LJ _ _ _ _ _ (_ :: _ :: _ :: _ :: _) _
   subst hse
   subst hnv
   have hperm := perm_end hb.nod hvn hvs h72
   have hvl := hperm.length_eq
   refine LJ_y rfl rfl (YJ_extract rfl rfl) ?_
   refine LJ_nil ?_
   refine QJ_then ?_
   refine CJ_seq ?_
   refine CJ_condF rfl ?_
   refine CJ_exit ?_
   refine QJ_then_exit ?_
   refine QJ_then_exit ?_
   refine QJ_in_exit ?_
   refine QJ_then ?_
   refine CJ_seq ?_
   refine CJ_seq ?_
   refine CJ_freezeRowK (n' := vis.length) (xs' := kCells vis) 1 rfl rfl rfl ?_
   show CJ _ _ _ _ (_ :: _ :: _ :: _) _
   refine CJ_reg ?_
   refine LJ_y rfl rfl (YJ_move rfl) ?_
   refine LJ_y rfl rfl (YJ_len rfl ulen_149 rfl) ?_
   refine LJ_y rfl rfl (YJ_move rfl) ?_
   refine LJ_nil ?_
   refine QJ_then ?_
   refine CJ_block ?_
   refine CJ_loopF (F := fun (i : Nat × BS) => ⟨[(1, .slice TA (((a : Int), (b : Int), (c : Int)) :: rest).length cT), (7, .pointer (some ⟨b2, 0, none⟩)), (10, .pointer (some ⟨b4, 0, none⟩)), (11, .func (.func 86) #[] #[.pointer (some ⟨b4, 0, none⟩), .pointer (some ⟨b2, 0, none⟩), .pointer (some ⟨b1, 0, none⟩)]), (80, .slice A0 vis.length c0), (81, .int .i64 vis.length), (82, .int .i64 (i.1 : Nat))], [mapR om fK fK i.2.L i.2.c, meshR Bm i.2.M], []⟩) (I := fun (i : Nat × BS) => i.1 ≤ vis.length ∧ i.2 = (vis.take i.1).foldl (stepG F) (buildR F pts a b c (((a : Int), (b : Int), (c : Int)) :: rest)) ∧ bOk pts.length i.2 ∧ i.2.M.tris.length ≤ 100010 + i.1) (m := fun (i : Nat × BS) => vis.length - i.1) (0, buildR F pts a b c (((a : Int), (b : Int), (c : Int)) :: rest)) (μr := [_]) ⟨Nat.zero_le _, rfl, hb, by dsimp only; omega⟩ (And.intro rfl (And.intro rfl (And.intro rfl (And.intro rfl (And.intro rfl (And.intro rfl (And.intro rfl (trivial)))))))) (permI [1, 1] rfl) (fun _ h => nomatch h) ?_
   rintro ⟨k, s⟩ ⟨hk, hs, hb, hl⟩
   try dsimp only at hk
   try dsimp only at hs
   try dsimp only at hb
   try dsimp only at hl
   show CJ _ _ _ [(1, .slice TA (((a : Int), (b : Int), (c : Int)) :: rest).length cT), (7, .pointer (some ⟨b2, 0, none⟩)), (10, .pointer (some ⟨b4, 0, none⟩)), (11, .func (.func 86) #[] #[.pointer (some ⟨b4, 0, none⟩), .pointer (some ⟨b2, 0, none⟩), .pointer (some ⟨b1, 0, none⟩)]), (80, .slice A0 vis.length c0), (81, .int .i64 vis.length), (82, .int .i64 (k : Nat))] (mapR om fK fK s.L s.c :: meshR Bm s.M :: _ :: _) _
   refine CJ_seq ?_
   refine CJ_reg ?_
   refine LJ_y rfl rfl (YJ_bin rfl rfl rfl) ?_
   refine LJ_nil ?_
   refine QJ_then ?_
   refine CJ_seq ?_
   refine CJ_cond rfl (fun h83 => ?_) (fun h83 => ?_)
   ·simp only [decide_eq_true_eq] at h83
    obtain ⟨e, he⟩ := get_at h83
    have hev := hperm.mem_iff.1 (List.mem_of_getElem? he)
    obtain ⟨he1, he0⟩ := hbR.key e hev
    obtain ⟨hn0, hn1, hm0, hm1, hmk⟩ := make_ok hb (e.1.2) (e.1.1) (-1)
    refine CJ_skip ?_
    refine QJ_then ?_
    refine CJ_seq ?_
    refine CJ_block ?_
    refine CJ_seq ?_
    refine CJ_reg ?_
    refine LJ_y rfl rfl (YJ_ixFact (n' := vis.length) rfl rfl elt_149 m0 (by decide) (by omega) (by omega) (by omega)) ?_
    refine LJ_y rfl rfl (YJ_loadFactN (vs := [.int .i64 e.1.1, .int .i64 e.1.2]) (xs := kCells vis) rfl tyi_46 m0 (k_row he) rfl) ?_
    refine LJ_alloc (cs := #[_, _]) rfl rfl zer_46 rfl ?_
    intro b7
    refine LJ_store (cs' := #[_, _]) (μ' := [_, _, _, _]) 0 rfl rfl rfl rfl tyi_46 rfl (Nat.le_of_ble_eq_true rfl) rfl rfl rfl ?_
    refine LJ_nil ?_
    refine QJ_then ?_
    refine CJ_seq ?_
    refine CJ_reg ?_
    refine LJ_y rfl rfl (YJ_ixArr rfl rfl arrt_46 (by omega) (by omega) rfl) ?_
    refine LJ_y rfl rfl (YJ_loadL rfl tyi_3 m0 rfl) ?_
    refine LJ_y rfl rfl (YJ_ixArr rfl rfl arrt_46 (by omega) (by omega) rfl) ?_
    refine LJ_y rfl rfl (YJ_loadL rfl tyi_3 m0 rfl) ?_
    refine LJ_y rfl rfl (YJ_build1 (cs := [_, _, _]) lay_34 rfl rfl rfl) ?_
    refine LJ_alloc (cs := #[_, _, _]) rfl rfl zer_34 rfl ?_
    intro b8
    refine LJ_store (cs' := #[_, _, _]) (μ' := [_, _, _, _, _]) 0 rfl rfl rfl rfl tyi_34 rfl (Nat.le_of_ble_eq_true rfl) rfl rfl rfl ?_
    refine LJ_nil ?_
    refine QJ_then ?_
    refine CJ_regD mix (by kernel_rfl) (fun _ _ _ _ _ h => h) (selR [0, 1, 4] _) _ (selR_sub _ _) (fun _ h => h) ?_
    refine AJ_y 0 rfl (by kernel_rfl) (by kernel_rfl) rfl rfl (YJ_move rfl) ?_
    refine AJ_y 1 rfl (by kernel_rfl) (by kernel_rfl) rfl rfl (YJ_loadFactP (A := some ⟨b2, 0, none⟩) (j := 0) rfl rfl tyi_28 m1 rfl) ?_
    refine AJ_y 2 rfl (by kernel_rfl) (by kernel_rfl) rfl rfl (YJ_ixArr rfl rfl arrt_34 (by omega) (by omega) rfl) ?_
    refine AJ_y 3 rfl (by kernel_rfl) (by kernel_rfl) rfl rfl (YJ_loadL rfl tyi_3 m0 rfl) ?_
    refine AJ_y 4 rfl (by kernel_rfl) (by kernel_rfl) rfl rfl (YJ_ixArr rfl rfl arrt_34 (by omega) (by omega) rfl) ?_
    refine AJ_y 5 rfl (by kernel_rfl) (by kernel_rfl) rfl rfl (YJ_loadL rfl tyi_3 m0 rfl) ?_
    refine AJ_y 6 rfl (by kernel_rfl) (by kernel_rfl) rfl rfl (YJ_ixArr rfl rfl arrt_34 (by omega) (by omega) rfl) ?_
    refine AJ_y 7 rfl (by kernel_rfl) (by kernel_rfl) rfl rfl (YJ_loadL rfl tyi_3 m0 rfl) ?_
    refine AJ_y 9 rfl (by kernel_rfl) (by kernel_rfl) rfl rfl (YJ_loadN (vs := [_, _, _]) rfl tyi_34 m0 rfl rfl) ?_
    refine AJ_call1 8 3 rfl (by kernel_rfl) rfl rfl rfl rfl rfl rfl (make_c (a := e.1.2) (b := e.1.1) (c := -1) (by omega) (by have := hb.fl; omega) hb.free (by rw [hb.ats]; omega) (by rw [hb.ats]; omega) (by rw [hb.ats]; omega) (by rw [hb.ats]; exact hp0)) (fun _ h => nomatch h) (AllIn.sub (And.intro m0 (And.intro m1 (And.intro m4 (trivial))))) ?_
    show AJ _ _ _ _ _ _ _ _ (_ :: _ :: _ :: _ :: _ :: _) _
    refine AJ_val (v := .int .i64 ((s.M.nextN.toNat : Nat) : Int)) (congrArg (Value.int .i64) (by omega)) ?_
    refine AJ_callP (μ1 := [_, _]) (μr := [_, _, _]) 10 rfl (by kernel_rfl) (permI [2, 2] rfl) rfl rfl rfl rfl rfl (join_c (bo := b4) (ro := om) (bm := b2) (B := Bm) (bf := b1) (rf := rf) (F := F) (cF := cF) (n := s.M.nextN.toNat) (s0 := ⟨s.M.make (e.1.2) (e.1.1) (-1), s.L, s.c⟩) (by dsimp only; omega) (by dsimp only; omega) hmk.op) (fun r hr => by simp only [joinFs, buildFs, List.mem_cons, List.not_mem_nil, or_false, List.append_assoc, List.cons_append, List.nil_append] at *; grind) (fun _ => AllIn.sub (And.intro m2 (And.intro m3 (And.intro m4 (trivial))))) ?_
    intro _ _
    show AJ _ _ _ _ _ _ _ _ (_ :: _ :: _ :: _ :: _ :: _) _
    refine AJ_done (by kernel_rfl) ?_
    refine QJ_in_normal ?_
    refine QJ_then ?_
    refine CJ_reg ?_
    refine LJ_y rfl rfl (YJ_bin rfl rfl (iop_add (by omega))) ?_
    refine LJ_y rfl rfl (YJ_move rfl) ?_
    refine LJ_nil ?_
    refine QJ_roundF (F := fun (i : Nat × BS) => ⟨[(1, .slice TA (((a : Int), (b : Int), (c : Int)) :: rest).length cT), (7, .pointer (some ⟨b2, 0, none⟩)), (10, .pointer (some ⟨b4, 0, none⟩)), (11, .func (.func 86) #[] #[.pointer (some ⟨b4, 0, none⟩), .pointer (some ⟨b2, 0, none⟩), .pointer (some ⟨b1, 0, none⟩)]), (80, .slice A0 vis.length c0), (81, .int .i64 vis.length), (82, .int .i64 (i.1 : Nat))], [mapR om fK fK i.2.L i.2.c, meshR Bm i.2.M], []⟩) (I := fun (i : Nat × BS) => i.1 ≤ vis.length ∧ i.2 = (vis.take i.1).foldl (stepG F) (buildR F pts a b c (((a : Int), (b : Int), (c : Int)) :: rest)) ∧ bOk pts.length i.2 ∧ i.2.M.tris.length ≤ 100010 + i.1) (m := fun (i : Nat × BS) => vis.length - i.1) (i := (k, s)) ((k + 1, stepG F s e)) (μd := [_, _]) ⟨by omega, by dsimp only; rw [take_step _ _ he, ← hs], (stepT_ok hb he0 he1 (by dsimp only; omega)).1, by have := (stepT_ok (F := F) (v := (e.1.2, e.1.1, -1)) hb he0 he1 (by dsimp only; omega)).2.1; dsimp only; unfold stepG; omega⟩ (by dsimp only; omega) (And.intro rfl (And.intro rfl (And.intro rfl (And.intro rfl (And.intro rfl (And.intro rfl (And.intro rfl (trivial)))))))) (permI [0, 0, 2] rfl) (fun _ h => nomatch h) (fun _ h => h)
   ·simp only [decide_eq_false_iff_not] at h83
    have hk9 : k = vis.length := by omega
    have hs9 : s = buildG F (buildR F pts a b c (((a : Int), (b : Int), (c : Int)) :: rest)) vis := by rw [hs, hk9, List.take_length]; rfl
    subst hs9
    refine CJ_exit ?_
    refine QJ_then_exit ?_
    refine QJ_then_exit ?_
    refine QJ_in_exit ?_
    refine QJ_then ?_
    refine CJ_seq ?_
    refine CJ_reg ?_
    refine LJ_y rfl rfl (YJ_loadFactP (A := some ⟨b2, 0, none⟩) (j := 0) rfl rfl tyi_28 m1 rfl) ?_
    refine LJ_y rfl rfl (YJ_assign rfl) ?_
    refine LJ_nil ?_
    refine QJ_then ?_
    refine CJ_ret ?_
    skip
    exact QJ_fin (.inl rfl) (μ' := [_]) (μr := _) (φ' := []) (res_tmp rfl rfl) (permI [1] rfl) (fun _ h => nomatch h) ⟨(Bm, vis), hperm, rfl, rfl, rfl⟩
  ·show LJ _ _ _ _ _ (_ :: _ :: _ :: _ :: _) _
   have hem := left_mem he72
   rw [hse] at hem
   have hvn2 : (vis.map (·.2.2) ++ [e72.2.2]).Nodup := by
    rw [List.nodup_append]
    refine ⟨hvn, by simp, ?_⟩
    intro x hx y hy
    rw [List.mem_singleton] at hy
    subst hy
    intro q
    subst q
    exact hem.2 hx
   refine LJ_y rfl rfl (YJ_extract rfl rfl) ?_
   refine LJ_nil ?_
   refine QJ_then ?_
   refine CJ_seq ?_
   refine CJ_condT rfl ?_
   refine CJ_skip ?_
   refine QJ_then ?_
   refine CJ_block ?_
   refine CJ_seq ?_
   refine CJ_reg ?_
   refine LJ_y rfl rfl (YJ_entry (f := fK) (g := fK) rfl m0 (MapAt_own (l := (buildR F pts a b c (((a : Int), (b : Int), (c : Int)) :: rest)).L) (c := (buildR F pts a b c (((a : Int), (b : Int), (c : Int)) :: rest)).c) m2) hem.1 hb.nod) ?_
   refine LJ_y rfl rfl (YJ_extract rfl rfl) ?_
   refine LJ_alloc (cs := #[_, _]) rfl rfl zer_46 rfl ?_
   intro b9
   refine LJ_store (cs' := #[_, _]) (μ' := [_, _, _, _, _]) 0 rfl rfl rfl rfl tyi_46 rfl (Nat.le_of_ble_eq_true rfl) rfl rfl rfl ?_
   refine LJ_nil ?_
   refine QJ_then ?_
   refine CJ_reg ?_
   refine LJ_y rfl rfl (YJ_move rfl) ?_
   refine LJ_y rfl rfl (YJ_loadN (vs := [_, _]) rfl tyi_46 m0 rfl rfl) ?_
   refine LJ_buildSliceN (vs := [_]) (cs := [_, _]) rfl rfl elt_149 zer_46 (by decide) (by decide) rfl rfl rfl rfl rfl ?_
   intro b10
   refine LJ_append 3 rfl rfl elt_149 zer_46 rfl rfl rfl rfl (Rd_own m0) rfl rfl (by omega) (by omega) (by decide) (k_app vis e72) ?_
   intro A79 c79
   show LJ _ _ _ _ _ (_ :: _ :: _ :: _ :: _ :: _ :: _) _
   refine LJ_y rfl rfl (YJ_assign rfl) ?_
   refine LJ_nil ?_
   refine QJ_in_normal ?_
   refine QJ_roundF (F := fun (i : MapO × List Nat × Nat × Option Addr × Nat) => ⟨[(1, .slice TA (((a : Int), (b : Int), (c : Int)) :: rest).length cT), (7, .pointer (some ⟨b2, 0, none⟩)), (10, .pointer (some ⟨b4, 0, none⟩)), (11, .func (.func 86) #[] #[.pointer (some ⟨b4, 0, none⟩), .pointer (some ⟨b2, 0, none⟩), .pointer (some ⟨b1, 0, none⟩)]), (14, .slice i.2.2.2.1 i.2.2.1 i.2.2.2.2), (71, .pointer (some ⟨it, 0, none⟩))], [itR it om (buildR F pts a b c (((a : Int), (b : Int), (c : Int)) :: rest)).c i.2.1 (buildR F pts a b c (((a : Int), (b : Int), (c : Int)) :: rest)).c, rowR 46 2 i.2.2.2.1 i.2.2.1 i.2.2.2.2 (kCells i.1)], []⟩) (I := fun (i : MapO × List Nat × Nat × Option Addr × Nat) => i.2.1 = i.1.map (·.2.2) ∧ i.2.2.1 = i.1.length ∧ (i.1.map (·.2.2)).Nodup ∧ (∀ e, e ∈ i.1 → e ∈ (buildR F pts a b c (((a : Int), (b : Int), (c : Int)) :: rest)).L) ∧ (leftL (buildR F pts a b c (((a : Int), (b : Int), (c : Int)) :: rest)).L i.2.1).length + i.1.length ≤ (buildR F pts a b c (((a : Int), (b : Int), (c : Int)) :: rest)).L.length) (m := fun (i : MapO × List Nat × Nat × Option Addr × Nat) => (leftL (buildR F pts a b c (((a : Int), (b : Int), (c : Int)) :: rest)).L i.2.1).length) (i := (vis, seen, nv, A0, c0)) ((vis ++ [e72], seen ++ [e72.2.2], nv + 1, A79, c79)) (μd := [_, _]) ⟨by dsimp only; rw [hse]; simp, by dsimp only; rw [hnv]; simp, by simpa using hvn2, fun e h => (List.mem_append.1 h).elim (hvs e) (fun q => by rw [List.mem_singleton] at q; subst q; exact hem.1), by have := left_lt he72; dsimp only; simp only [List.length_append, List.length_cons, List.length_nil]; omega⟩ (by dsimp only; exact left_lt he72) (And.intro rfl (And.intro rfl (And.intro rfl (And.intro rfl (And.intro rfl (And.intro rfl (trivial))))))) (permI [2, 2, 2, 2] rfl) (fun _ h => nomatch h) (fun _ h => h)
end Go.Proofs.Ytbanlhlggkdanaa
namespace Go.Proofs.Ytbanlhlggkdanaa
open Go.RowKit
theorem ent_57 : Enter Try.prog 57 = true := by kernel_rfl
theorem ent_24 : Enter Try.prog 24 = true := by kernel_rfl
theorem YJ_andU {E : Env} {ty : TypeId} {σ : List (Nat × Value)} {μ φ : List Res} {xt yt : TypeId} {x y : Operand} {a : Int} (hx : oev σ x = some (.int .u32 a)) (hy : oev σ y = some (.int .u32 1)) (h0 : 0 ≤ a) :
  YJ E (.binOp .and xt x y yt) ty σ μ φ (.int .u32 (a % 2)) := fun ac w _ _ _ _ hs _ _ => by
 simp only [execOp, hs.ev hx, hs.ev hy, eqGuard_and, binOp_and]
 have : (Op.intBits .and .u32 a 1) = pure (.int .u32 (a % 2)) := by
  unfold Op.intBits
  show (pure (Value.int .u32 (IntKind.u32.wrap ((BitVec.ofInt 32 a &&& BitVec.ofInt 32 1 : BitVec 32).toNat : Int))) : Sem Value) = _
  have e : (BitVec.ofInt 32 a &&& BitVec.ofInt 32 1 : BitVec 32).toNat = (a % 2).toNat := by
   rw [BitVec.toNat_and]
   have h2 : (BitVec.ofInt 32 1 : BitVec 32).toNat = 2 ^ 1 - 1 := by decide
   rw [h2, Nat.and_two_pow_sub_one_eq_mod, BitVec.toNat_ofInt]
   omega
  rw [e]
  have e2 : IntKind.u32.wrap (((a % 2).toNat : Nat) : Int) = a % 2 := by
   rw [Int.toNat_of_nonneg (by omega)]
   rcases (by omega : a % 2 = 0 ∨ a % 2 = 1) with h | h <;> rw [h] <;> decide
  rw [e2]
 rw [this]
 rfl
theorem CJ_freezeK {E : Env} {Q : Exit → Act → World → Prop} {σ : List (Nat × Value)} {μ φ : List Res} {cd : Code} {r : Res} (k : Nat) (hk : μ[k]? = some r) (h : CJ E Q cd σ (μ.eraseIdx k) (r :: φ)) : CJ E Q cd σ μ φ :=
 fun a w ha hm => h a w ha (hm.weak (μr := []) (by simpa using perm_at hk) (fun _ h => h)).freeze
def gW (w : Int) : Nat := (1 + w % 2).toNat
theorem gW_or (w : Int) : gW w = 1 ∨ gW w = 2 := by unfold gW; omega
def bitN (v : Int) (k : Nat) : Bool := decide (v / 2 ^ min k 32 % 2 = 1)
def atI (W : Nat) (x y : Int) : Int := y * ((W : Int) + 1) + x
def ptsG (W y x : Nat) : List (Int × Int) := (List.range y).flatMap (fun b => (List.range (W + 1)).map fun (a : Nat) => (2 * (a : Int), 2 * ((b : Nat) : Int))) ++ (List.range x).map fun (a : Nat) => (2 * (a : Int), 2 * (y : Int))
def tri2 (W : Nat) (f : Nat → Bool) (y x : Nat) : List (Int × Int × Int) :=
 bif f (W * y + x) then [(atI W x y, atI W ((x : Int) + 1) y, atI W ((x : Int) + 1) ((y : Int) + 1)), (atI W ((x : Int) + 1) ((y : Int) + 1), atI W x ((y : Int) + 1), atI W x y)]
 else [(atI W ((x : Int) + 1) y, atI W x ((y : Int) + 1), atI W x y), (atI W x ((y : Int) + 1), atI W ((x : Int) + 1) y, atI W ((x : Int) + 1) ((y : Int) + 1))]
def trisG (W : Nat) (f : Nat → Bool) (y x : Nat) : List (Int × Int × Int) := (List.range y).flatMap (fun b => (List.range W).flatMap (tri2 W f b)) ++ (List.range x).flatMap (tri2 W f y)
theorem ptsG_x {W y x : Nat} : ptsG W y (x + 1) = ptsG W y x ++ [(2 * (x : Int), 2 * (y : Int))] := by unfold ptsG; simp [List.range_succ]
theorem ptsG_y {W y : Nat} : ptsG W (y + 1) 0 = ptsG W y (W + 1) := by unfold ptsG; simp [List.range_succ]
theorem trisG_x {W y x : Nat} {f : Nat → Bool} : trisG W f y (x + 1) = trisG W f y x ++ tri2 W f y x := by unfold trisG; simp [List.range_succ]
theorem trisG_y {W y : Nat} {f : Nat → Bool} : trisG W f (y + 1) 0 = trisG W f y W := by unfold trisG; simp [List.range_succ]
theorem tri2_len {W y x : Nat} {f : Nat → Bool} : (tri2 W f y x).length = 2 := by unfold tri2; cases f (W * y + x) <;> rfl
theorem t3_T {W y x : Nat} {f : Nat → Bool} (h : f (W * y + x) = true) : t3Cells (trisG W f y x) ++ [.int .i64 (atI W x y), .int .i64 (atI W ((x : Int) + 1) y), .int .i64 (atI W ((x : Int) + 1) ((y : Int) + 1)), .int .i64 (atI W ((x : Int) + 1) ((y : Int) + 1)), .int .i64 (atI W x ((y : Int) + 1)), .int .i64 (atI W x y)] = t3Cells (trisG W f y (x + 1)) := by
 rw [trisG_x]; simp [t3Cells, tri2, h]
theorem t3_F {W y x : Nat} {f : Nat → Bool} (h : f (W * y + x) = false) : t3Cells (trisG W f y x) ++ [.int .i64 (atI W ((x : Int) + 1) y), .int .i64 (atI W x ((y : Int) + 1)), .int .i64 (atI W x y), .int .i64 (atI W x ((y : Int) + 1)), .int .i64 (atI W ((x : Int) + 1) y), .int .i64 (atI W ((x : Int) + 1) ((y : Int) + 1))] = t3Cells (trisG W f y (x + 1)) := by
 rw [trisG_x]; simp [t3Cells, tri2, h]
def gPts (W H : Nat) : List (Int × Int) := ptsG W (H + 1) 0
def gTris (W H : Nat) (f : Nat → Bool) : List (Int × Int × Int) := trisG W f H 0
def bit4 (b0 b1 b2 b3 : Bool) : Nat → Bool
 | 0 => b0
 | 1 => b1
 | 2 => b2
 | _ => b3
theorem gTris_nf {W H : Nat} {f : Nat → Bool} (hW : W = 1 ∨ W = 2) (hH : H = 1 ∨ H = 2) : gTris W H f = gTris W H (bit4 (f 0) (f 1) (f 2) (f 3)) := by
 rcases hW with rfl | rfl <;> rcases hH with rfl | rfl <;> rfl
def gHead (W H : Nat) (f : Nat → Bool) : Int × Int × Int := (gTris W H f).headD (0, 0, 0)
def gOkB (W H : Nat) (f : Nat → Bool) : Bool := (gTris W H f).length != 0 && decide ((gTris W H f).length ≤ 8) && (gTris W H f).all (fun x => decide (0 ≤ x.1 ∧ x.1 < (gPts W H).length ∧ 0 ≤ x.2.1 ∧ x.2.1 < (gPts W H).length ∧ 0 ≤ x.2.2 ∧ x.2.2 < (gPts W H).length)) && decide (0 < pA (gPts W H) (gHead W H f).1.toNat (gHead W H f).2.1.toNat (gHead W H f).2.2.toNat)
theorem gOkB_all : ∀ (b0 b1 b2 b3 : Bool), gOkB 1 1 (bit4 b0 b1 b2 b3) = true ∧ gOkB 1 2 (bit4 b0 b1 b2 b3) = true ∧ gOkB 2 1 (bit4 b0 b1 b2 b3) = true ∧ gOkB 2 2 (bit4 b0 b1 b2 b3) = true := by decide +kernel
theorem gOkB_true {W H : Nat} {f : Nat → Bool} (hW : W = 1 ∨ W = 2) (hH : H = 1 ∨ H = 2) : gOkB W H f = true := by
 unfold gOkB gHead
 rw [gTris_nf hW hH]
 have := gOkB_all (f 0) (f 1) (f 2) (f 3)
 rcases hW with rfl | rfl <;> rcases hH with rfl | rfl
 ·exact this.1
 ·exact this.2.1
 ·exact this.2.2.1
 ·exact this.2.2.2
theorem gPts_ok {W H : Nat} (hW : W = 1 ∨ W = 2) (hH : H = 1 ∨ H = 2) : (gPts W H).length ≤ 9 ∧ ∀ p, p ∈ gPts W H → 0 ≤ p.1 ∧ p.1 ≤ 4 ∧ 0 ≤ p.2 ∧ p.2 ≤ 4 := by
 rcases hW with rfl | rfl <;> rcases hH with rfl | rfl <;> decide
theorem g_shape {W H : Nat} (hW : W = 1 ∨ W = 2) (hH : H = 1 ∨ H = 2) (f : Nat → Bool) : ∃ (a b c : Nat) (rest : List (Int × Int × Int)), gTris W H f = ((a : Int), (b : Int), (c : Int)) :: rest ∧ rest.length ≤ 8 ∧ (∀ x, x ∈ gTris W H f → x.1 < (gPts W H).length ∧ x.2.1 < (gPts W H).length ∧ x.2.2 < (gPts W H).length) ∧ a < (gPts W H).length ∧ b < (gPts W H).length ∧ c < (gPts W H).length ∧ 0 < pA (gPts W H) a b c := by
 have h := gOkB_true (f := f) hW hH
 unfold gOkB gHead at h
 rcases hT : gTris W H f with _ | ⟨⟨a, b, c⟩, rest⟩
 ·rw [hT] at h; simp at h
 ·rw [hT] at h
  simp only [Bool.and_eq_true, decide_eq_true_eq, List.headD_cons] at h
  obtain ⟨⟨⟨_, h1⟩, h2⟩, h3⟩ := h
  rw [List.all_eq_true] at h2
  have h4 : ∀ x, x ∈ (a, b, c) :: rest → (0 ≤ x.1 ∧ x.1 < (gPts W H).length ∧ 0 ≤ x.2.1 ∧ x.2.1 < (gPts W H).length ∧ 0 ≤ x.2.2 ∧ x.2.2 < (gPts W H).length) := fun x hx => of_decide_eq_true (h2 x hx)
  obtain ⟨q1, q2, q3, q4, q5, q6⟩ := h4 _ (.head _)
  dsimp only at q1 q2 q3 q4 q5 q6 h3
  refine ⟨a.toNat, b.toNat, c.toNat, rest, by rw [Int.toNat_of_nonneg q1, Int.toNat_of_nonneg q3, Int.toNat_of_nonneg q5], ?_, ?_, by omega, by omega, by omega, of_decide_eq_true h3⟩
  ·rw [List.length_cons] at h1; omega
  ·intro x hx
   have := h4 x hx
   exact ⟨this.2.1, this.2.2.2.1, this.2.2.2.2.2⟩
def gridR (F : MapI) (W H : Nat) (f : Nat → Bool) : BS := buildR F (gPts W H) (gHead W H f).1 (gHead W H f).2.1 (gHead W H f).2.2 (gTris W H f)
set_option maxRecDepth 100000 in
set_option maxHeartbeats 1000000 in
theorem at_c {b W : Nat} {x y : Int} (hW : W = 1 ∨ W = 2) (hx : 0 ≤ x ∧ x ≤ 5) (hy : 0 ≤ y ∧ y ≤ 5) : Tri Try.prog 57 [.int .i64 x, .int .i64 y, .pointer (some ⟨b, 0, none⟩)] [] [sliceR 1 (some ⟨b, 0, none⟩) 1 [.int .i64 (W : Int)]] (Ret0 (.int .i64 (atI W x y))) := by
 refine Tri_of (N := 12) Try.func57 rfl ent_57 rfl rfl ?_
 intro w0 S0 T0
 show CJ _ _ _ [(0, _), (1, _), (2, _)] _ _
 have hm9 : 0 ≤ y * ((W : Int) + 1) ∧ y * ((W : Int) + 1) ≤ 15 := by rcases hW with rfl | rfl <;> (constructor <;> omega)
 refine CJ_seq ?_
 refine CJ_reg ?_
 refine LJ_y rfl rfl (YJ_assign rfl) ?_
 refine LJ_nil ?_
 refine QJ_then ?_
 refine CJ_seq ?_
 refine CJ_reg ?_
 refine LJ_y rfl rfl (YJ_move rfl) ?_
 refine LJ_y rfl rfl (YJ_loadFactP (A := some ⟨b, 0, none⟩) (j := 0) rfl rfl tyi_3 m0 rfl) ?_
 refine LJ_y rfl rfl (YJ_bin rfl rfl (iop_add (by rcases hW with rfl | rfl <;> omega))) ?_
 refine LJ_y rfl rfl (YJ_bin rfl rfl (iop_mul (by omega))) ?_
 refine LJ_y rfl rfl (YJ_move rfl) ?_
 refine LJ_y rfl rfl (YJ_bin rfl rfl (iop_add (by omega))) ?_
 refine LJ_y rfl rfl (YJ_assign rfl) ?_
 refine LJ_nil ?_
 refine QJ_then ?_
 refine CJ_ret ?_
 refine QJ_fin (.inl rfl) (μ' := []) (μr := _) (φ' := []) (res_tmp rfl rfl) (List.Perm.refl _) (fun _ h => nomatch h) ?_
 exact ⟨rfl, rfl, rfl⟩
set_option maxRecDepth 100000 in
set_option maxHeartbeats 16000000 in
theorem grid_c {w h v fa : Int} (hv : 0 ≤ v ∧ v < 4294967296) (hf : 0 ≤ fa ∧ fa < 4294967296) : Tri Try.prog 24 [.int .i64 w, .int .i64 h, .int .u32 v, .int .u32 fa] [] [] (RetX (fun (x : Nat × MapI × MapO × Option Addr × Nat) => (fa = 0 → x.2.1 = []) ∧ x.2.2.1.Perm (gridR x.2.1 (gW w) (gW h) (bitN v)).L) (fun x => .tuple #[.pointer (some ⟨x.1, 0, none⟩), .slice x.2.2.2.1 (gTris (gW w) (gW h) (bitN v)).length x.2.2.2.2]) (fun x => [meshR x.1 (buildG x.2.1 (gridR x.2.1 (gW w) (gW h) (bitN v)) x.2.2.1).M]) (fun x => [sliceR 3 x.2.2.2.1 (gTris (gW w) (gW h) (bitN v)).length (t3Cells (gTris (gW w) (gW h) (bitN v)))])) := by
 refine Tri_of (N := 158) Try.func24 rfl ent_24 rfl rfl ?_
 intro w0 S0 T0
 show CJ _ _ _ [(0, _), (1, _), (2, _), (3, _)] _ _
 have hW := gW_or w
 have hH := gW_or h
 have hwW : 1 + w % ((2 ^ 1 : Nat) : Int) = ((gW w : Nat) : Int) := by unfold gW; omega
 have hhH : 1 + h % ((2 ^ 1 : Nat) : Int) = ((gW h : Nat) : Int) := by unfold gW; omega
 generalize gW w = W at *
 generalize gW h = H at *
 refine CJ_seq ?_
 refine CJ_reg ?_
 refine LJ_box (cs := #[_]) rfl rfl rfl rfl ?_
 intro b1
 refine LJ_y rfl rfl (YJ_assign rfl) ?_
 refine LJ_y rfl rfl (YJ_assign rfl) ?_
 refine LJ_nil ?_
 refine QJ_then ?_
 refine CJ_seq ?_
 refine CJ_reg ?_
 refine LJ_y rfl rfl (YJ_loadL rfl tyi_3 m0 rfl) ?_
 refine LJ_y rfl rfl (YJ_andM 1 rfl rfl (by decide) (by decide)) ?_
 refine LJ_y rfl rfl (YJ_bin rfl rfl (iop_add (by omega))) ?_
 refine LJ_val (v := .int .i64 (W : Int)) (congrArg (Value.int .i64) hwW) ?_
 refine LJ_y rfl rfl (YJ_move rfl) ?_
 refine LJ_y rfl rfl (YJ_andM 1 rfl rfl (by decide) (by decide)) ?_
 refine LJ_y rfl rfl (YJ_bin rfl rfl (iop_add (by omega))) ?_
 refine LJ_val (v := .int .i64 (H : Int)) (congrArg (Value.int .i64) hhH) ?_
 refine LJ_store (cs' := #[_]) (μ' := [_]) 0 rfl rfl rfl rfl tyi_3 rfl (Nat.le_of_ble_eq_true rfl) rfl rfl rfl ?_
 refine LJ_y rfl rfl (YJ_assign rfl) ?_
 refine LJ_nil ?_
 refine QJ_then ?_
 refine CJ_seq ?_
 refine CJ_freezeCells (size := 1) (n := 1) (xs := [.int .i64 (W : Int)]) 0 rfl rfl rfl ?_
 show CJ _ _ _ _ (_) _
 refine CJ_reg ?_
 refine LJ_y rfl rfl (YJ_assign rfl) ?_
 refine LJ_nil ?_
 refine QJ_then ?_
 refine CJ_seq ?_
 refine CJ_seq ?_
 refine CJ_newRow 23 2 ?_
 refine CJ_reg ?_
 refine LJ_y rfl rfl (YJ_move rfl) ?_
 refine LJ_y rfl rfl (YJ_bin rfl rfl (iop_add (by omega))) ?_
 refine LJ_y rfl rfl (YJ_move rfl) ?_
 refine LJ_nil ?_
 refine QJ_then ?_
 refine CJ_block ?_
 refine CJ_loopF (F := fun (i : Nat × Nat × Option Addr × Nat) => ⟨[(1, .int .i64 (H : Int)), (2, .int .u32 v), (3, .int .u32 fa), (4, .pointer (some ⟨b1, 0, none⟩)), (10, .slice i.2.2.1 i.2.1 i.2.2.2), (34, .int .i64 ((H : Int) + 1)), (35, .int .i64 (i.1 : Nat))], [rowR 23 2 i.2.2.1 i.2.1 i.2.2.2 (ptCells (ptsG W i.1 0))], []⟩) (I := fun (i : Nat × Nat × Option Addr × Nat) => i.1 ≤ H + 1 ∧ i.2.1 = (ptsG W i.1 0).length ∧ i.2.1 ≤ 3 * i.1) (m := fun (i : Nat × Nat × Option Addr × Nat) => H + 1 - i.1) (0, 0, none, 0) (μr := []) ⟨Nat.zero_le _, rfl, Nat.le_refl _⟩ (And.intro rfl (And.intro rfl (And.intro rfl (And.intro rfl (And.intro rfl (And.intro rfl (And.intro rfl (trivial)))))))) (permI [] rfl) (fun _ h => nomatch h) ?_
 rintro ⟨y, n, A0, c0⟩ ⟨hy, hn, hnb⟩
 try dsimp only at hy
 try dsimp only at hn
 try dsimp only at hnb
 show CJ _ _ _ [(1, .int .i64 (H : Int)), (2, .int .u32 v), (3, .int .u32 fa), (4, .pointer (some ⟨b1, 0, none⟩)), (10, .slice A0 n c0), (34, .int .i64 ((H : Int) + 1)), (35, .int .i64 (y : Nat))] (rowR 23 2 A0 n c0 (ptCells (ptsG W y 0)) :: _) _
 refine CJ_seq ?_
 refine CJ_reg ?_
 refine LJ_y rfl rfl (YJ_bin rfl rfl rfl) ?_
 refine LJ_nil ?_
 refine QJ_then ?_
 refine CJ_seq ?_
 refine CJ_cond rfl (fun h36 => ?_) (fun h36 => ?_)
 ·simp only [decide_eq_true_eq] at h36
  refine CJ_skip ?_
  refine QJ_then ?_
  refine CJ_seq ?_
  refine CJ_block ?_
  refine CJ_seq ?_
  refine CJ_reg ?_
  refine LJ_y rfl rfl (YJ_move rfl) ?_
  refine LJ_y rfl rfl (YJ_assign rfl) ?_
  refine LJ_nil ?_
  refine QJ_then ?_
  refine CJ_seq ?_
  refine CJ_reg ?_
  refine LJ_y rfl rfl (YJ_loadFactP (A := some ⟨b1, 0, none⟩) (j := 0) rfl rfl tyi_3 m0 rfl) ?_
  refine LJ_y rfl rfl (YJ_bin rfl rfl (iop_add (by omega))) ?_
  refine LJ_y rfl rfl (YJ_move rfl) ?_
  refine LJ_nil ?_
  refine QJ_then ?_
  refine CJ_block ?_
  refine CJ_loopF (F := fun (i : Nat × Nat × Option Addr × Nat) => ⟨[(1, .int .i64 (H : Int)), (2, .int .u32 v), (3, .int .u32 fa), (4, .pointer (some ⟨b1, 0, none⟩)), (10, .slice i.2.2.1 i.2.1 i.2.2.2), (34, .int .i64 ((H : Int) + 1)), (35, .int .i64 (y : Nat)), (11, .int .i64 (y : Nat)), (39, .int .i64 ((W : Int) + 1)), (40, .int .i64 (i.1 : Nat))], [rowR 23 2 i.2.2.1 i.2.1 i.2.2.2 (ptCells (ptsG W y i.1))], []⟩) (I := fun (i : Nat × Nat × Option Addr × Nat) => i.1 ≤ W + 1 ∧ i.2.1 = (ptsG W y i.1).length ∧ i.2.1 ≤ 3 * y + i.1) (m := fun (i : Nat × Nat × Option Addr × Nat) => W + 1 - i.1) (0, n, A0, c0) (μr := []) ⟨Nat.zero_le _, hn, hnb⟩ (And.intro rfl (And.intro rfl (And.intro rfl (And.intro rfl (And.intro rfl (And.intro rfl (And.intro rfl (And.intro rfl (And.intro rfl (And.intro rfl (trivial))))))))))) (permI [] rfl) (fun _ h => nomatch h) ?_
  rintro ⟨x, n1, A1, c1⟩ ⟨hx, hn1, hnb1⟩
  try dsimp only at hx
  try dsimp only at hn1
  try dsimp only at hnb1
  show CJ _ _ _ [(1, .int .i64 (H : Int)), (2, .int .u32 v), (3, .int .u32 fa), (4, .pointer (some ⟨b1, 0, none⟩)), (10, .slice A1 n1 c1), (34, .int .i64 ((H : Int) + 1)), (35, .int .i64 (y : Nat)), (11, .int .i64 (y : Nat)), (39, .int .i64 ((W : Int) + 1)), (40, .int .i64 (x : Nat))] (rowR 23 2 A1 n1 c1 (ptCells (ptsG W y x)) :: _) _
  refine CJ_seq ?_
  refine CJ_reg ?_
  refine LJ_y rfl rfl (YJ_bin rfl rfl rfl) ?_
  refine LJ_nil ?_
  refine QJ_then ?_
  refine CJ_seq ?_
  refine CJ_cond rfl (fun h41 => ?_) (fun h41 => ?_)
  ·simp only [decide_eq_true_eq] at h41
   refine CJ_skip ?_
   refine QJ_then ?_
   refine CJ_seq ?_
   refine CJ_block ?_
   refine CJ_seq ?_
   refine CJ_reg ?_
   refine LJ_y rfl rfl (YJ_move rfl) ?_
   refine LJ_y rfl rfl (YJ_assign rfl) ?_
   refine LJ_nil ?_
   refine QJ_then ?_
   refine CJ_reg ?_
   refine LJ_y rfl rfl (YJ_move rfl) ?_
   refine LJ_y rfl rfl (YJ_move rfl) ?_
   refine LJ_y rfl rfl (YJ_bin rfl rfl (iop_mul (by omega))) ?_
   refine LJ_y rfl rfl (YJ_move rfl) ?_
   refine LJ_y rfl rfl (YJ_bin rfl rfl (iop_mul (by omega))) ?_
   refine LJ_y rfl rfl (YJ_build1 (cs := [_, _]) lay_23 rfl rfl rfl) ?_
   refine LJ_buildSliceN (vs := [_]) (cs := [_, _]) rfl rfl elt_26 zer_23 (by decide) (by decide) rfl rfl rfl rfl rfl ?_
   intro b2
   refine LJ_append 1 rfl rfl elt_26 zer_23 rfl rfl rfl rfl (Rd_own m0) rfl rfl (by omega) (by omega) (by decide) ((ptCells_app _ (2 * (x : Int), 2 * (y : Int))).trans (congrArg ptCells ptsG_x.symm)) ?_
   intro A9 c9
   show LJ _ _ _ _ _ (_ :: _ :: _) _
   refine LJ_y rfl rfl (YJ_assign rfl) ?_
   refine LJ_nil ?_
   refine QJ_in_normal ?_
   refine QJ_then ?_
   refine CJ_reg ?_
   refine LJ_y rfl rfl (YJ_bin rfl rfl (iop_add (by omega))) ?_
   refine LJ_y rfl rfl (YJ_move rfl) ?_
   refine LJ_nil ?_
   refine QJ_roundF (F := fun (i : Nat × Nat × Option Addr × Nat) => ⟨[(1, .int .i64 (H : Int)), (2, .int .u32 v), (3, .int .u32 fa), (4, .pointer (some ⟨b1, 0, none⟩)), (10, .slice i.2.2.1 i.2.1 i.2.2.2), (34, .int .i64 ((H : Int) + 1)), (35, .int .i64 (y : Nat)), (11, .int .i64 (y : Nat)), (39, .int .i64 ((W : Int) + 1)), (40, .int .i64 (i.1 : Nat))], [rowR 23 2 i.2.2.1 i.2.1 i.2.2.2 (ptCells (ptsG W y i.1))], []⟩) (I := fun (i : Nat × Nat × Option Addr × Nat) => i.1 ≤ W + 1 ∧ i.2.1 = (ptsG W y i.1).length ∧ i.2.1 ≤ 3 * y + i.1) (m := fun (i : Nat × Nat × Option Addr × Nat) => W + 1 - i.1) (i := (x, n1, A1, c1)) ((x + 1, n1 + 1, A9, c9)) (μd := [_]) ⟨by omega, by dsimp only; rw [ptsG_x, List.length_append, ← hn1]; rfl, by dsimp only; omega⟩ (by dsimp only; omega) (And.intro rfl (And.intro rfl (And.intro rfl (And.intro rfl (And.intro rfl (And.intro rfl (And.intro rfl (And.intro rfl (And.intro rfl (And.intro rfl (trivial))))))))))) (permI [1] rfl) (fun _ h => nomatch h) (fun _ h => h)
  ·simp only [decide_eq_false_iff_not] at h41
   have hx9 : W + 1 = x := by omega
   subst hx9
   rw [← ptsG_y] at hn1 ⊢
   have hW3 : W ≤ 2 := by omega
   refine CJ_exit ?_
   refine QJ_then_exit ?_
   refine QJ_then_exit ?_
   refine QJ_in_exit ?_
   refine QJ_in_normal ?_
   refine QJ_then ?_
   refine CJ_reg ?_
   refine LJ_y rfl rfl (YJ_bin rfl rfl (iop_add (by omega))) ?_
   refine LJ_y rfl rfl (YJ_move rfl) ?_
   refine LJ_nil ?_
   refine QJ_roundF (F := fun (i : Nat × Nat × Option Addr × Nat) => ⟨[(1, .int .i64 (H : Int)), (2, .int .u32 v), (3, .int .u32 fa), (4, .pointer (some ⟨b1, 0, none⟩)), (10, .slice i.2.2.1 i.2.1 i.2.2.2), (34, .int .i64 ((H : Int) + 1)), (35, .int .i64 (i.1 : Nat))], [rowR 23 2 i.2.2.1 i.2.1 i.2.2.2 (ptCells (ptsG W i.1 0))], []⟩) (I := fun (i : Nat × Nat × Option Addr × Nat) => i.1 ≤ H + 1 ∧ i.2.1 = (ptsG W i.1 0).length ∧ i.2.1 ≤ 3 * i.1) (m := fun (i : Nat × Nat × Option Addr × Nat) => H + 1 - i.1) (i := (y, n, A0, c0)) ((y + 1, n1, A1, c1)) (μd := []) ⟨by omega, hn1, by dsimp only; omega⟩ (by dsimp only; omega) (And.intro rfl (And.intro rfl (And.intro rfl (And.intro rfl (And.intro rfl (And.intro rfl (And.intro rfl (trivial)))))))) (permI [] rfl) (fun _ h => nomatch h) (fun _ h => h)
 ·simp only [decide_eq_false_iff_not] at h36
  have hy9 : H + 1 = y := by omega
  subst hy9
  subst hn
  refine CJ_exit ?_
  refine QJ_then_exit ?_
  refine QJ_then_exit ?_
  refine QJ_in_exit ?_
  refine QJ_then ?_
  refine CJ_seq ?_
  refine CJ_freezeRowK (n' := (gPts W H).length) (xs' := ptCells (gPts W H)) 0 rfl rfl rfl ?_
  show CJ _ _ _ _ (_) _
  refine CJ_reg ?_
  refine LJ_y rfl rfl (YJ_assign rfl) ?_
  refine LJ_nil ?_
  refine QJ_then ?_
  refine CJ_seq ?_
  refine CJ_newRow 34 3 ?_
  refine CJ_reg ?_
  refine LJ_y rfl rfl (YJ_makeFunc (vs := []) (us := [_]) rfl rfl) ?_
  refine LJ_y rfl rfl (YJ_assign rfl) ?_
  refine LJ_nil ?_
  refine QJ_then ?_
  refine CJ_seq ?_
  refine CJ_reg ?_
  refine LJ_y rfl rfl (YJ_assign rfl) ?_
  refine LJ_nil ?_
  refine QJ_then ?_
  refine CJ_seq ?_
  refine CJ_seq ?_
  refine CJ_reg ?_
  refine LJ_y rfl rfl (YJ_move rfl) ?_
  refine LJ_y rfl rfl (YJ_move rfl) ?_
  refine LJ_nil ?_
  refine QJ_then ?_
  refine CJ_block ?_
  refine CJ_loopF (F := fun (i : Nat × Nat × Option Addr × Nat) => ⟨[(1, .int .i64 (H : Int)), (2, .int .u32 v), (3, .int .u32 fa), (4, .pointer (some ⟨b1, 0, none⟩)), (10, .slice A0 (gPts W H).length c0), (14, .func (.func 57) #[] #[.pointer (some ⟨b1, 0, none⟩)]), (13, .slice i.2.2.1 i.2.1 i.2.2.2), (15, .int .i64 ((W * i.1 : Nat) : Int)), (54, .int .i64 (H : Int)), (55, .int .i64 (i.1 : Nat))], [rowR 34 3 i.2.2.1 i.2.1 i.2.2.2 (t3Cells (trisG W (bitN v) i.1 0))], []⟩) (I := fun (i : Nat × Nat × Option Addr × Nat) => i.1 ≤ H ∧ i.2.1 = (trisG W (bitN v) i.1 0).length ∧ i.2.1 ≤ 4 * i.1) (m := fun (i : Nat × Nat × Option Addr × Nat) => H - i.1) (0, 0, none, 0) (μr := []) ⟨Nat.zero_le _, rfl, Nat.le_refl _⟩ (And.intro rfl (And.intro rfl (And.intro rfl (And.intro rfl (And.intro rfl (And.intro rfl (And.intro rfl (And.intro rfl (And.intro rfl (And.intro rfl (trivial))))))))))) (permI [] rfl) (fun _ h => nomatch h) ?_
  rintro ⟨y, n, TA, cT⟩ ⟨hy, hn, hnb⟩
  try dsimp only at hy
  try dsimp only at hn
  try dsimp only at hnb
  show CJ _ _ _ [(1, .int .i64 (H : Int)), (2, .int .u32 v), (3, .int .u32 fa), (4, .pointer (some ⟨b1, 0, none⟩)), (10, .slice A0 (gPts W H).length c0), (14, .func (.func 57) #[] #[.pointer (some ⟨b1, 0, none⟩)]), (13, .slice TA n cT), (15, .int .i64 ((W * y : Nat) : Int)), (54, .int .i64 (H : Int)), (55, .int .i64 (y : Nat))] (rowR 34 3 TA n cT (t3Cells (trisG W (bitN v) y 0)) :: _) _
  refine CJ_seq ?_
  refine CJ_reg ?_
  refine LJ_y rfl rfl (YJ_bin rfl rfl rfl) ?_
  refine LJ_nil ?_
  refine QJ_then ?_
  refine CJ_seq ?_
  refine CJ_cond rfl (fun h56 => ?_) (fun h56 => ?_)
  ·simp only [decide_eq_true_eq] at h56
   refine CJ_skip ?_
   refine QJ_then ?_
   refine CJ_seq ?_
   refine CJ_block ?_
   refine CJ_seq ?_
   refine CJ_reg ?_
   refine LJ_y rfl rfl (YJ_move rfl) ?_
   refine LJ_y rfl rfl (YJ_assign rfl) ?_
   refine LJ_nil ?_
   refine QJ_then ?_
   refine CJ_seq ?_
   refine CJ_reg ?_
   refine LJ_y rfl rfl (YJ_loadFactP (A := some ⟨b1, 0, none⟩) (j := 0) rfl rfl tyi_3 m1 rfl) ?_
   refine LJ_y rfl rfl (YJ_move rfl) ?_
   refine LJ_nil ?_
   refine QJ_then ?_
   refine CJ_block ?_
   refine CJ_loopF (F := fun (i : Nat × Nat × Option Addr × Nat) => ⟨[(1, .int .i64 (H : Int)), (2, .int .u32 v), (3, .int .u32 fa), (4, .pointer (some ⟨b1, 0, none⟩)), (10, .slice A0 (gPts W H).length c0), (14, .func (.func 57) #[] #[.pointer (some ⟨b1, 0, none⟩)]), (13, .slice i.2.2.1 i.2.1 i.2.2.2), (15, .int .i64 ((W * y + i.1 : Nat) : Int)), (54, .int .i64 (H : Int)), (55, .int .i64 (y : Nat)), (16, .int .i64 (y : Nat)), (58, .int .i64 (W : Int)), (59, .int .i64 (i.1 : Nat))], [rowR 34 3 i.2.2.1 i.2.1 i.2.2.2 (t3Cells (trisG W (bitN v) y i.1))], []⟩) (I := fun (i : Nat × Nat × Option Addr × Nat) => i.1 ≤ W ∧ i.2.1 = (trisG W (bitN v) y i.1).length ∧ i.2.1 ≤ 4 * y + 2 * i.1) (m := fun (i : Nat × Nat × Option Addr × Nat) => W - i.1) (0, n, TA, cT) (μr := []) ⟨Nat.zero_le _, hn, hnb⟩ (And.intro rfl (And.intro rfl (And.intro rfl (And.intro rfl (And.intro rfl (And.intro rfl (And.intro rfl (And.intro rfl (And.intro rfl (And.intro rfl (And.intro rfl (And.intro rfl (And.intro rfl (trivial)))))))))))))) (permI [] rfl) (fun _ h => nomatch h) ?_
   rintro ⟨x, n1, A1, c1⟩ ⟨hx, hn1, hnb1⟩
   try dsimp only at hx
   try dsimp only at hn1
   try dsimp only at hnb1
   show CJ _ _ _ [(1, .int .i64 (H : Int)), (2, .int .u32 v), (3, .int .u32 fa), (4, .pointer (some ⟨b1, 0, none⟩)), (10, .slice A0 (gPts W H).length c0), (14, .func (.func 57) #[] #[.pointer (some ⟨b1, 0, none⟩)]), (13, .slice A1 n1 c1), (15, .int .i64 ((W * y + x : Nat) : Int)), (54, .int .i64 (H : Int)), (55, .int .i64 (y : Nat)), (16, .int .i64 (y : Nat)), (58, .int .i64 (W : Int)), (59, .int .i64 (x : Nat))] (rowR 34 3 A1 n1 c1 (t3Cells (trisG W (bitN v) y x)) :: _) _
   have hyW : W * y ≤ 4 := by rcases hW with rfl | rfl <;> omega
   refine CJ_seq ?_
   refine CJ_reg ?_
   refine LJ_y rfl rfl (YJ_bin rfl rfl rfl) ?_
   refine LJ_nil ?_
   refine QJ_then ?_
   refine CJ_seq ?_
   refine CJ_cond rfl (fun h60 => ?_) (fun h60 => ?_)
   ·simp only [decide_eq_true_eq] at h60
    refine CJ_skip ?_
    refine QJ_then ?_
    refine CJ_seq ?_
    refine CJ_block ?_
    refine CJ_seq ?_
    refine CJ_reg ?_
    refine LJ_y rfl rfl (YJ_move rfl) ?_
    refine LJ_y rfl rfl (YJ_assign rfl) ?_
    refine LJ_nil ?_
    refine QJ_then ?_
    refine CJ_seq ?_
    refine CJ_reg ?_
    refine LJ_y rfl rfl (YJ_move rfl) ?_
    refine LJ_y rfl rfl (YJ_move rfl) ?_
    refine LJ_y rfl rfl (YJ_move rfl) ?_
    refine LJ_call0 rfl rfl rfl rfl rfl (at_c (W := W) (x := ((x : Nat) : Int)) (y := ((y : Nat) : Int)) hW (by omega) (by omega)) (AllIn.sub (And.intro m1 trivial)) ?_
    refine LJ_y rfl rfl (YJ_move rfl) ?_
    refine LJ_y rfl rfl (YJ_move rfl) ?_
    refine LJ_y rfl rfl (YJ_bin rfl rfl (iop_add (by omega))) ?_
    refine LJ_y rfl rfl (YJ_move rfl) ?_
    refine LJ_call0 rfl rfl rfl rfl rfl (at_c (W := W) (x := ((x : Nat) : Int) + 1) (y := ((y : Nat) : Int)) hW (by omega) (by omega)) (AllIn.sub (And.intro m1 trivial)) ?_
    refine LJ_y rfl rfl (YJ_move rfl) ?_
    refine LJ_y rfl rfl (YJ_move rfl) ?_
    refine LJ_y rfl rfl (YJ_bin rfl rfl (iop_add (by omega))) ?_
    refine LJ_y rfl rfl (YJ_move rfl) ?_
    refine LJ_y rfl rfl (YJ_bin rfl rfl (iop_add (by omega))) ?_
    refine LJ_call0 rfl rfl rfl rfl rfl (at_c (W := W) (x := ((x : Nat) : Int) + 1) (y := ((y : Nat) : Int) + 1) hW (by omega) (by omega)) (AllIn.sub (And.intro m1 trivial)) ?_
    refine LJ_y rfl rfl (YJ_move rfl) ?_
    refine LJ_y rfl rfl (YJ_move rfl) ?_
    refine LJ_y rfl rfl (YJ_move rfl) ?_
    refine LJ_y rfl rfl (YJ_bin rfl rfl (iop_add (by omega))) ?_
    refine LJ_call0 rfl rfl rfl rfl rfl (at_c (W := W) (x := ((x : Nat) : Int)) (y := ((y : Nat) : Int) + 1) hW (by omega) (by omega)) (AllIn.sub (And.intro m1 trivial)) ?_
    refine LJ_y rfl rfl (YJ_assign rfl) ?_
    refine LJ_y rfl rfl (YJ_assign rfl) ?_
    refine LJ_y rfl rfl (YJ_assign rfl) ?_
    refine LJ_y rfl rfl (YJ_assign rfl) ?_
    refine LJ_nil ?_
    refine QJ_then ?_
    refine CJ_seq ?_
    refine CJ_seq ?_
    refine CJ_reg ?_
    refine LJ_y rfl rfl (YJ_move rfl) ?_
    refine LJ_y rfl rfl (YJ_move rfl) ?_
    refine LJ_y rfl rfl (YJ_shr rfl rfl (Int.natCast_nonneg _)) ?_
    refine LJ_y rfl rfl (YJ_andU rfl rfl (Int.ediv_nonneg hv.1 (Int.le_of_lt (Int.pow_pos (by decide))))) ?_
    refine LJ_y rfl rfl (YJ_bin rfl rfl rfl) ?_
    refine LJ_nil ?_
    refine QJ_then ?_
    refine CJ_cond rfl (fun h86 => ?_) (fun h86 => ?_)
    ·simp only [decide_eq_true_eq] at h86
     have hb86 : bitN v (W * y + x) = true := decide_eq_true (p := v / 2 ^ min (W * y + x) 32 % 2 = 1) h86
     refine CJ_reg ?_
     refine LJ_y rfl rfl (YJ_move rfl) ?_
     refine LJ_y rfl rfl (YJ_move rfl) ?_
     refine LJ_y rfl rfl (YJ_move rfl) ?_
     refine LJ_y rfl rfl (YJ_move rfl) ?_
     refine LJ_y rfl rfl (YJ_build1 (cs := [_, _, _]) lay_34 rfl rfl rfl) ?_
     refine LJ_y rfl rfl (YJ_move rfl) ?_
     refine LJ_y rfl rfl (YJ_move rfl) ?_
     refine LJ_y rfl rfl (YJ_move rfl) ?_
     refine LJ_y rfl rfl (YJ_build1 (cs := [_, _, _]) lay_34 rfl rfl rfl) ?_
     refine LJ_buildSliceN (vs := [_, _]) (cs := [_, _, _, _, _, _]) rfl rfl elt_47 zer_34 (by decide) (by decide) rfl rfl rfl rfl rfl ?_
     intro b3
     refine LJ_append 1 rfl rfl elt_47 zer_34 rfl rfl rfl rfl (Rd_own m0) rfl rfl (by omega) (by omega) (by decide) (t3_T hb86) ?_
     intro A9 c9
     show LJ _ _ _ _ _ (_ :: _ :: _) _
     refine LJ_y rfl rfl (YJ_assign rfl) ?_
     refine LJ_nil ?_
     refine QJ_then ?_
     refine CJ_reg ?_
     refine LJ_y rfl rfl (YJ_move rfl) ?_
     refine LJ_y rfl rfl (YJ_bin rfl rfl (iop_add (by omega))) ?_
     refine LJ_val (v := .int .i64 ((W * y + (x + 1) : Nat) : Int)) (congrArg (Value.int .i64) (by omega)) ?_
     refine LJ_y rfl rfl (YJ_assign rfl) ?_
     refine LJ_nil ?_
     refine QJ_in_normal ?_
     refine QJ_then ?_
     refine CJ_reg ?_
     refine LJ_y rfl rfl (YJ_bin rfl rfl (iop_add (by omega))) ?_
     refine LJ_y rfl rfl (YJ_move rfl) ?_
     refine LJ_nil ?_
     refine QJ_roundF (F := fun (i : Nat × Nat × Option Addr × Nat) => ⟨[(1, .int .i64 (H : Int)), (2, .int .u32 v), (3, .int .u32 fa), (4, .pointer (some ⟨b1, 0, none⟩)), (10, .slice A0 (gPts W H).length c0), (14, .func (.func 57) #[] #[.pointer (some ⟨b1, 0, none⟩)]), (13, .slice i.2.2.1 i.2.1 i.2.2.2), (15, .int .i64 ((W * y + i.1 : Nat) : Int)), (54, .int .i64 (H : Int)), (55, .int .i64 (y : Nat)), (16, .int .i64 (y : Nat)), (58, .int .i64 (W : Int)), (59, .int .i64 (i.1 : Nat))], [rowR 34 3 i.2.2.1 i.2.1 i.2.2.2 (t3Cells (trisG W (bitN v) y i.1))], []⟩) (I := fun (i : Nat × Nat × Option Addr × Nat) => i.1 ≤ W ∧ i.2.1 = (trisG W (bitN v) y i.1).length ∧ i.2.1 ≤ 4 * y + 2 * i.1) (m := fun (i : Nat × Nat × Option Addr × Nat) => W - i.1) (i := (x, n1, A1, c1)) ((x + 1, n1 + 2, A9, c9)) (μd := [_]) ⟨by omega, by dsimp only; rw [trisG_x, List.length_append, tri2_len, ← hn1], by dsimp only; omega⟩ (by dsimp only; omega) (And.intro rfl (And.intro rfl (And.intro rfl (And.intro rfl (And.intro rfl (And.intro rfl (And.intro rfl (And.intro rfl (And.intro rfl (And.intro rfl (And.intro rfl (And.intro rfl (And.intro rfl (trivial)))))))))))))) (permI [1] rfl) (fun _ h => nomatch h) (fun _ h => h)
    ·simp only [decide_eq_false_iff_not] at h86
     have hb86 : bitN v (W * y + x) = false := decide_eq_false (p := v / 2 ^ min (W * y + x) 32 % 2 = 1) h86
     refine CJ_reg ?_
     refine LJ_y rfl rfl (YJ_move rfl) ?_
     refine LJ_y rfl rfl (YJ_move rfl) ?_
     refine LJ_y rfl rfl (YJ_move rfl) ?_
     refine LJ_y rfl rfl (YJ_move rfl) ?_
     refine LJ_y rfl rfl (YJ_build1 (cs := [_, _, _]) lay_34 rfl rfl rfl) ?_
     refine LJ_y rfl rfl (YJ_move rfl) ?_
     refine LJ_y rfl rfl (YJ_move rfl) ?_
     refine LJ_y rfl rfl (YJ_move rfl) ?_
     refine LJ_y rfl rfl (YJ_build1 (cs := [_, _, _]) lay_34 rfl rfl rfl) ?_
     refine LJ_buildSliceN (vs := [_, _]) (cs := [_, _, _, _, _, _]) rfl rfl elt_47 zer_34 (by decide) (by decide) rfl rfl rfl rfl rfl ?_
     intro b4
     refine LJ_append 1 rfl rfl elt_47 zer_34 rfl rfl rfl rfl (Rd_own m0) rfl rfl (by omega) (by omega) (by decide) (t3_F hb86) ?_
     intro A9 c9
     show LJ _ _ _ _ _ (_ :: _ :: _) _
     refine LJ_y rfl rfl (YJ_assign rfl) ?_
     refine LJ_nil ?_
     refine QJ_then ?_
     refine CJ_reg ?_
     refine LJ_y rfl rfl (YJ_move rfl) ?_
     refine LJ_y rfl rfl (YJ_bin rfl rfl (iop_add (by omega))) ?_
     refine LJ_val (v := .int .i64 ((W * y + (x + 1) : Nat) : Int)) (congrArg (Value.int .i64) (by omega)) ?_
     refine LJ_y rfl rfl (YJ_assign rfl) ?_
     refine LJ_nil ?_
     refine QJ_in_normal ?_
     refine QJ_then ?_
     refine CJ_reg ?_
     refine LJ_y rfl rfl (YJ_bin rfl rfl (iop_add (by omega))) ?_
     refine LJ_y rfl rfl (YJ_move rfl) ?_
     refine LJ_nil ?_
     refine QJ_roundF (F := fun (i : Nat × Nat × Option Addr × Nat) => ⟨[(1, .int .i64 (H : Int)), (2, .int .u32 v), (3, .int .u32 fa), (4, .pointer (some ⟨b1, 0, none⟩)), (10, .slice A0 (gPts W H).length c0), (14, .func (.func 57) #[] #[.pointer (some ⟨b1, 0, none⟩)]), (13, .slice i.2.2.1 i.2.1 i.2.2.2), (15, .int .i64 ((W * y + i.1 : Nat) : Int)), (54, .int .i64 (H : Int)), (55, .int .i64 (y : Nat)), (16, .int .i64 (y : Nat)), (58, .int .i64 (W : Int)), (59, .int .i64 (i.1 : Nat))], [rowR 34 3 i.2.2.1 i.2.1 i.2.2.2 (t3Cells (trisG W (bitN v) y i.1))], []⟩) (I := fun (i : Nat × Nat × Option Addr × Nat) => i.1 ≤ W ∧ i.2.1 = (trisG W (bitN v) y i.1).length ∧ i.2.1 ≤ 4 * y + 2 * i.1) (m := fun (i : Nat × Nat × Option Addr × Nat) => W - i.1) (i := (x, n1, A1, c1)) ((x + 1, n1 + 2, A9, c9)) (μd := [_]) ⟨by omega, by dsimp only; rw [trisG_x, List.length_append, tri2_len, ← hn1], by dsimp only; omega⟩ (by dsimp only; omega) (And.intro rfl (And.intro rfl (And.intro rfl (And.intro rfl (And.intro rfl (And.intro rfl (And.intro rfl (And.intro rfl (And.intro rfl (And.intro rfl (And.intro rfl (And.intro rfl (And.intro rfl (trivial)))))))))))))) (permI [1] rfl) (fun _ h => nomatch h) (fun _ h => h)
   ·simp only [decide_eq_false_iff_not] at h60
    have hx9 : W = x := by omega
    subst hx9
    rw [← trisG_y] at hn1 ⊢
    have hW3 : W ≤ 2 := by omega
    refine CJ_exit ?_
    refine QJ_then_exit ?_
    refine QJ_then_exit ?_
    refine QJ_in_exit ?_
    refine QJ_in_normal ?_
    refine QJ_then ?_
    refine CJ_reg ?_
    refine LJ_y rfl rfl (YJ_bin rfl rfl (iop_add (by omega))) ?_
    refine LJ_y rfl rfl (YJ_move rfl) ?_
    refine LJ_nil ?_
    refine QJ_roundF (F := fun (i : Nat × Nat × Option Addr × Nat) => ⟨[(1, .int .i64 (H : Int)), (2, .int .u32 v), (3, .int .u32 fa), (4, .pointer (some ⟨b1, 0, none⟩)), (10, .slice A0 (gPts W H).length c0), (14, .func (.func 57) #[] #[.pointer (some ⟨b1, 0, none⟩)]), (13, .slice i.2.2.1 i.2.1 i.2.2.2), (15, .int .i64 ((W * i.1 : Nat) : Int)), (54, .int .i64 (H : Int)), (55, .int .i64 (i.1 : Nat))], [rowR 34 3 i.2.2.1 i.2.1 i.2.2.2 (t3Cells (trisG W (bitN v) i.1 0))], []⟩) (I := fun (i : Nat × Nat × Option Addr × Nat) => i.1 ≤ H ∧ i.2.1 = (trisG W (bitN v) i.1 0).length ∧ i.2.1 ≤ 4 * i.1) (m := fun (i : Nat × Nat × Option Addr × Nat) => H - i.1) (i := (y, n, TA, cT)) ((y + 1, n1, A1, c1)) (μd := []) ⟨by omega, hn1, by dsimp only; omega⟩ (by dsimp only; omega) (And.intro rfl (And.intro rfl (And.intro rfl (And.intro rfl (And.intro rfl (And.intro rfl (And.intro rfl (And.intro rfl (And.intro rfl (And.intro rfl (trivial))))))))))) (permI [] rfl) (fun _ h => nomatch h) (fun _ h => h)
  ·simp only [decide_eq_false_iff_not] at h56
   have hy9 : H = y := by omega
   subst hy9
   subst hn
   have hTl : (gTris W H (bitN v)).length ≤ 8 := by show (trisG W (bitN v) H 0).length ≤ 8; omega
   refine CJ_exit ?_
   refine QJ_then_exit ?_
   refine QJ_then_exit ?_
   refine QJ_in_exit ?_
   refine QJ_then ?_
   refine CJ_seq ?_
   refine CJ_freezeRowK (n' := (gTris W H (bitN v)).length) (xs' := t3Cells (gTris W H (bitN v))) 0 rfl rfl rfl ?_
   show CJ _ _ _ _ (_) _
   refine CJ_reg ?_
   refine LJ_makeMap rfl rfl ?_
   intro fm
   refine LJ_y rfl rfl (YJ_assign rfl) ?_
   refine LJ_nil ?_
   refine QJ_then ?_
   refine CJ_seq ?_
   refine CJ_reg ?_
   refine LJ_y rfl rfl (YJ_assign rfl) ?_
   refine LJ_nil ?_
   refine QJ_then ?_
   refine CJ_seq ?_
   refine CJ_seq ?_
   refine CJ_reg ?_
   refine LJ_y rfl rfl (YJ_move rfl) ?_
   refine LJ_y rfl rfl (YJ_len rfl ulen_47 rfl) ?_
   refine LJ_y rfl rfl (YJ_move rfl) ?_
   refine LJ_nil ?_
   refine QJ_then ?_
   refine CJ_block ?_
   refine CJ_loopF (F := fun (i : Nat × Nat × MapI × Nat) => ⟨[(1, .int .i64 (H : Int)), (2, .int .u32 v), (3, .int .u32 fa), (4, .pointer (some ⟨b1, 0, none⟩)), (10, .slice A0 (gPts W H).length c0), (13, .slice TA (gTris W H (bitN v)).length cT), (22, .map (some fm)), (23, .int .i64 (i.2.1 : Nat)), (114, .slice TA (gTris W H (bitN v)).length cT), (115, .int .i64 ((gTris W H (bitN v)).length : Nat)), (116, .int .i64 (i.1 : Nat))], [mapR fm fK gI i.2.2.1 i.2.2.2], []⟩) (I := fun (i : Nat × Nat × MapI × Nat) => i.1 ≤ (gTris W H (bitN v)).length ∧ (fa = 0 → i.2.2.1 = []) ∧ i.2.1 ≤ 3 * i.1) (m := fun (i : Nat × Nat × MapI × Nat) => (gTris W H (bitN v)).length - i.1) (0, 0, [], 0) (μr := []) ⟨Nat.zero_le _, fun _ => rfl, Nat.le_refl _⟩ (And.intro rfl (And.intro rfl (And.intro rfl (And.intro rfl (And.intro rfl (And.intro rfl (And.intro rfl (And.intro rfl (And.intro rfl (And.intro rfl (And.intro rfl (trivial)))))))))))) (permI [] rfl) (fun _ h => nomatch h) ?_
   rintro ⟨k, n, F, cF⟩ ⟨hk, hF, hnb⟩
   try dsimp only at hk
   try dsimp only at hF
   try dsimp only at hnb
   show CJ _ _ _ [(1, .int .i64 (H : Int)), (2, .int .u32 v), (3, .int .u32 fa), (4, .pointer (some ⟨b1, 0, none⟩)), (10, .slice A0 (gPts W H).length c0), (13, .slice TA (gTris W H (bitN v)).length cT), (22, .map (some fm)), (23, .int .i64 (n : Nat)), (114, .slice TA (gTris W H (bitN v)).length cT), (115, .int .i64 ((gTris W H (bitN v)).length : Nat)), (116, .int .i64 (k : Nat))] (mapR fm fK gI F cF :: _) _
   refine CJ_seq ?_
   refine CJ_reg ?_
   refine LJ_y rfl rfl (YJ_bin rfl rfl rfl) ?_
   refine LJ_nil ?_
   refine QJ_then ?_
   refine CJ_seq ?_
   refine CJ_cond rfl (fun h117 => ?_) (fun h117 => ?_)
   ·simp only [decide_eq_true_eq] at h117
    obtain ⟨x, hx⟩ := get_at (l := gTris W H (bitN v)) h117
    refine CJ_skip ?_
    refine QJ_then ?_
    refine CJ_seq ?_
    refine CJ_block ?_
    refine CJ_seq ?_
    refine CJ_reg ?_
    refine LJ_y rfl rfl (YJ_ixFact (n' := (gTris W H (bitN v)).length) rfl rfl elt_47 m0 (by decide) (by omega) (by omega) (by omega)) ?_
    refine LJ_y rfl rfl (YJ_loadFactN (vs := [.int .i64 x.1, .int .i64 x.2.1, .int .i64 x.2.2]) (xs := t3Cells (gTris W H (bitN v))) rfl tyi_34 m0 (t3_row hx) rfl) ?_
    refine LJ_alloc (cs := #[_, _, _]) rfl rfl zer_34 rfl ?_
    intro b6
    refine LJ_store (cs' := #[_, _, _]) (μ' := [_, _]) 0 rfl rfl rfl rfl tyi_34 rfl (Nat.le_of_ble_eq_true rfl) rfl rfl rfl ?_
    refine LJ_nil ?_
    refine QJ_then ?_
    refine CJ_seq ?_
    refine CJ_reg ?_
    refine LJ_y rfl rfl (YJ_move rfl) ?_
    refine LJ_nil ?_
    refine QJ_then ?_
    refine CJ_block ?_
    refine CJ_loopF (F := fun (i : Nat × Nat × MapI × Nat) => ⟨[(1, .int .i64 (H : Int)), (2, .int .u32 v), (3, .int .u32 fa), (4, .pointer (some ⟨b1, 0, none⟩)), (10, .slice A0 (gPts W H).length c0), (13, .slice TA (gTris W H (bitN v)).length cT), (22, .map (some fm)), (23, .int .i64 (i.2.1 : Nat)), (114, .slice TA (gTris W H (bitN v)).length cT), (115, .int .i64 ((gTris W H (bitN v)).length : Nat)), (116, .int .i64 (k : Nat)), (25, .pointer (some ⟨b6, 0, none⟩)), (120, .int .i64 (i.1 : Nat))], [mapR fm fK gI i.2.2.1 i.2.2.2, cellsR b6 #[.int .i64 x.1, .int .i64 x.2.1, .int .i64 x.2.2] 34], []⟩) (I := fun (i : Nat × Nat × MapI × Nat) => i.1 ≤ 3 ∧ (fa = 0 → i.2.2.1 = []) ∧ i.2.1 ≤ 3 * k + i.1) (m := fun (i : Nat × Nat × MapI × Nat) => 3 - i.1) (0, n, F, cF) (μr := []) ⟨Nat.zero_le _, hF, hnb⟩ (And.intro rfl (And.intro rfl (And.intro rfl (And.intro rfl (And.intro rfl (And.intro rfl (And.intro rfl (And.intro rfl (And.intro rfl (And.intro rfl (And.intro rfl (And.intro rfl (And.intro rfl (trivial)))))))))))))) (permI [1] rfl) (fun _ h => nomatch h) ?_
    rintro ⟨j, n1, F1, cF1⟩ ⟨hj, hF1, hnb1⟩
    try dsimp only at hj
    try dsimp only at hF1
    try dsimp only at hnb1
    show CJ _ _ _ [(1, .int .i64 (H : Int)), (2, .int .u32 v), (3, .int .u32 fa), (4, .pointer (some ⟨b1, 0, none⟩)), (10, .slice A0 (gPts W H).length c0), (13, .slice TA (gTris W H (bitN v)).length cT), (22, .map (some fm)), (23, .int .i64 (n1 : Nat)), (114, .slice TA (gTris W H (bitN v)).length cT), (115, .int .i64 ((gTris W H (bitN v)).length : Nat)), (116, .int .i64 (k : Nat)), (25, .pointer (some ⟨b6, 0, none⟩)), (120, .int .i64 (j : Nat))] (mapR fm fK gI F1 cF1 :: cellsR b6 #[.int .i64 x.1, .int .i64 x.2.1, .int .i64 x.2.2] 34 :: _) _
    refine CJ_seq ?_
    refine CJ_reg ?_
    refine LJ_y rfl rfl (YJ_bin rfl rfl rfl) ?_
    refine LJ_nil ?_
    refine QJ_then ?_
    refine CJ_seq ?_
    refine CJ_cond rfl (fun h121 => ?_) (fun h121 => ?_)
    ·simp only [decide_eq_true_eq] at h121
     refine CJ_skip ?_
     refine QJ_then ?_
     refine CJ_seq ?_
     refine CJ_block ?_
     refine CJ_seq ?_
     refine CJ_reg ?_
     rcases (by omega : j = 0 ∨ j = 1 ∨ j = 2) with rfl | rfl | rfl
     ·skip
      refine LJ_y rfl rfl (YJ_move rfl) ?_
      refine LJ_y rfl rfl (YJ_assign rfl) ?_
      refine LJ_nil ?_
      refine QJ_then ?_
      refine CJ_seq ?_
      refine CJ_seq ?_
      refine CJ_reg ?_
      refine LJ_y rfl rfl (YJ_move rfl) ?_
      refine LJ_y rfl rfl (YJ_move rfl) ?_
      refine LJ_y rfl rfl (YJ_rem rfl rfl (by first | decide | omega)) ?_
      refine LJ_y rfl rfl (YJ_shr rfl rfl (Int.tmod_nonneg _ (by omega))) ?_
      refine LJ_y rfl rfl (YJ_andU rfl rfl (Int.ediv_nonneg hf.1 (Int.le_of_lt (Int.pow_pos (by decide))))) ?_
      refine LJ_y rfl rfl (YJ_bin rfl rfl rfl) ?_
      refine LJ_nil ?_
      refine QJ_then ?_
      refine CJ_cond rfl (fun h128 => ?_) (fun h128 => ?_)
      ·simp only [decide_eq_true_eq] at h128
       refine CJ_regD mix (by kernel_rfl) (fun _ _ _ _ _ h => h) (selR [1] _) _ (selR_sub _ _) (fun _ h => h) ?_
       refine AJ_y 0 rfl (by kernel_rfl) (by kernel_rfl) rfl rfl (YJ_move rfl) ?_
       refine AJ_y 1 rfl (by kernel_rfl) (by kernel_rfl) rfl rfl (YJ_move rfl) ?_
       refine AJ_val (v := .int .i64 0) (rfl) ?_
       refine AJ_y 2 rfl (by kernel_rfl) (by kernel_rfl) rfl rfl (YJ_ixArr rfl rfl arrt_34 (by omega) (by omega) rfl) ?_
       refine AJ_y 3 rfl (by kernel_rfl) (by kernel_rfl) rfl rfl (YJ_loadL rfl tyi_3 m0 rfl) ?_
       refine AJ_y 4 rfl (by kernel_rfl) (by kernel_rfl) rfl rfl (YJ_move rfl) ?_
       refine AJ_y 5 rfl (by kernel_rfl) (by kernel_rfl) rfl rfl (YJ_bin rfl rfl (iop_add (by omega))) ?_
       refine AJ_y 6 rfl (by kernel_rfl) (by kernel_rfl) rfl rfl (YJ_rem rfl rfl (by first | decide | omega)) ?_
       refine AJ_val (v := .int .i64 1) (rfl) ?_
       refine AJ_y 7 rfl (by kernel_rfl) (by kernel_rfl) rfl rfl (YJ_ixArr rfl rfl arrt_34 (by omega) (by omega) rfl) ?_
       refine AJ_y 8 rfl (by kernel_rfl) (by kernel_rfl) rfl rfl (YJ_loadL rfl tyi_3 m0 rfl) ?_
       refine AJ_y 9 rfl (by kernel_rfl) (by kernel_rfl) rfl rfl (YJ_min2 rfl rfl) ?_
       refine AJ_y 10 rfl (by kernel_rfl) (by kernel_rfl) rfl rfl (YJ_move rfl) ?_
       refine AJ_val (v := .int .i64 0) (rfl) ?_
       refine AJ_y 11 rfl (by kernel_rfl) (by kernel_rfl) rfl rfl (YJ_ixArr rfl rfl arrt_34 (by omega) (by omega) rfl) ?_
       refine AJ_y 12 rfl (by kernel_rfl) (by kernel_rfl) rfl rfl (YJ_loadL rfl tyi_3 m0 rfl) ?_
       refine AJ_y 13 rfl (by kernel_rfl) (by kernel_rfl) rfl rfl (YJ_move rfl) ?_
       refine AJ_y 14 rfl (by kernel_rfl) (by kernel_rfl) rfl rfl (YJ_bin rfl rfl (iop_add (by omega))) ?_
       refine AJ_y 15 rfl (by kernel_rfl) (by kernel_rfl) rfl rfl (YJ_rem rfl rfl (by first | decide | omega)) ?_
       refine AJ_val (v := .int .i64 1) (rfl) ?_
       refine AJ_y 16 rfl (by kernel_rfl) (by kernel_rfl) rfl rfl (YJ_ixArr rfl rfl arrt_34 (by omega) (by omega) rfl) ?_
       refine AJ_y 17 rfl (by kernel_rfl) (by kernel_rfl) rfl rfl (YJ_loadL rfl tyi_3 m0 rfl) ?_
       refine AJ_y 18 rfl (by kernel_rfl) (by kernel_rfl) rfl rfl (YJ_max2 rfl rfl) ?_
       refine AJ_y 19 rfl (by kernel_rfl) (by kernel_rfl) rfl rfl (YJ_build1 (cs := [_, _]) lay_46 rfl rfl rfl) ?_
       refine AJ_mapUpdate (f := fK) (g := gI) (k := (min (x.1) (x.2.1), max (x.1) (x.2.1))) (v := (1 : Int)) 20 0 rfl (by kernel_rfl) rfl rfl rfl rfl rfl umap_116 keyO rfl rfl (AllIn.sub (And.intro m1 (trivial))) ?_
       show AJ _ _ _ _ _ _ _ _ (_ :: _ :: _) _
       refine AJ_done (by kernel_rfl) ?_
       refine QJ_then ?_
       refine CJ_reg ?_
       refine LJ_y rfl rfl (YJ_move rfl) ?_
       refine LJ_y rfl rfl (YJ_bin rfl rfl (iop_add (by omega))) ?_
       refine LJ_y rfl rfl (YJ_assign rfl) ?_
       refine LJ_nil ?_
       refine QJ_in_normal ?_
       refine QJ_then ?_
       refine CJ_reg ?_
       refine LJ_y rfl rfl (YJ_bin rfl rfl (iop_add (by omega))) ?_
       refine LJ_y rfl rfl (YJ_move rfl) ?_
       refine LJ_nil ?_
       refine QJ_roundF (F := fun (i : Nat × Nat × MapI × Nat) => ⟨[(1, .int .i64 (H : Int)), (2, .int .u32 v), (3, .int .u32 fa), (4, .pointer (some ⟨b1, 0, none⟩)), (10, .slice A0 (gPts W H).length c0), (13, .slice TA (gTris W H (bitN v)).length cT), (22, .map (some fm)), (23, .int .i64 (i.2.1 : Nat)), (114, .slice TA (gTris W H (bitN v)).length cT), (115, .int .i64 ((gTris W H (bitN v)).length : Nat)), (116, .int .i64 (k : Nat)), (25, .pointer (some ⟨b6, 0, none⟩)), (120, .int .i64 (i.1 : Nat))], [mapR fm fK gI i.2.2.1 i.2.2.2, cellsR b6 #[.int .i64 x.1, .int .i64 x.2.1, .int .i64 x.2.2] 34], []⟩) (I := fun (i : Nat × Nat × MapI × Nat) => i.1 ≤ 3 ∧ (fa = 0 → i.2.2.1 = []) ∧ i.2.1 ≤ 3 * k + i.1) (m := fun (i : Nat × Nat × MapI × Nat) => 3 - i.1) (i := (_, n1, F1, cF1)) ((1, n1 + 1, mput (min (x.1) (x.2.1), max (x.1) (x.2.1)) (1 : Int) F1 cF1, mclk (min (x.1) (x.2.1), max (x.1) (x.2.1)) F1 cF1)) (μd := []) ⟨by omega, fun q => by subst q; simp at h128, by dsimp only; omega⟩ (by dsimp only; omega) (And.intro rfl (And.intro rfl (And.intro rfl (And.intro rfl (And.intro rfl (And.intro rfl (And.intro rfl (And.intro rfl (And.intro rfl (And.intro rfl (And.intro rfl (And.intro rfl (And.intro rfl (trivial)))))))))))))) (permI [] rfl) (fun _ h => nomatch h) (fun _ h => h)
      ·simp only [decide_eq_false_iff_not] at h128
       refine CJ_skip ?_
       refine QJ_then ?_
       refine CJ_reg ?_
       refine LJ_y rfl rfl (YJ_move rfl) ?_
       refine LJ_y rfl rfl (YJ_bin rfl rfl (iop_add (by omega))) ?_
       refine LJ_y rfl rfl (YJ_assign rfl) ?_
       refine LJ_nil ?_
       refine QJ_in_normal ?_
       refine QJ_then ?_
       refine CJ_reg ?_
       refine LJ_y rfl rfl (YJ_bin rfl rfl (iop_add (by omega))) ?_
       refine LJ_y rfl rfl (YJ_move rfl) ?_
       refine LJ_nil ?_
       refine QJ_roundF (F := fun (i : Nat × Nat × MapI × Nat) => ⟨[(1, .int .i64 (H : Int)), (2, .int .u32 v), (3, .int .u32 fa), (4, .pointer (some ⟨b1, 0, none⟩)), (10, .slice A0 (gPts W H).length c0), (13, .slice TA (gTris W H (bitN v)).length cT), (22, .map (some fm)), (23, .int .i64 (i.2.1 : Nat)), (114, .slice TA (gTris W H (bitN v)).length cT), (115, .int .i64 ((gTris W H (bitN v)).length : Nat)), (116, .int .i64 (k : Nat)), (25, .pointer (some ⟨b6, 0, none⟩)), (120, .int .i64 (i.1 : Nat))], [mapR fm fK gI i.2.2.1 i.2.2.2, cellsR b6 #[.int .i64 x.1, .int .i64 x.2.1, .int .i64 x.2.2] 34], []⟩) (I := fun (i : Nat × Nat × MapI × Nat) => i.1 ≤ 3 ∧ (fa = 0 → i.2.2.1 = []) ∧ i.2.1 ≤ 3 * k + i.1) (m := fun (i : Nat × Nat × MapI × Nat) => 3 - i.1) (i := (_, n1, F1, cF1)) ((1, n1 + 1, F1, cF1)) (μd := []) ⟨by omega, hF1, by dsimp only; omega⟩ (by dsimp only; omega) (And.intro rfl (And.intro rfl (And.intro rfl (And.intro rfl (And.intro rfl (And.intro rfl (And.intro rfl (And.intro rfl (And.intro rfl (And.intro rfl (And.intro rfl (And.intro rfl (And.intro rfl (trivial)))))))))))))) (permI [] rfl) (fun _ h => nomatch h) (fun _ h => h)
     ·skip
      refine LJ_y rfl rfl (YJ_move rfl) ?_
      refine LJ_y rfl rfl (YJ_assign rfl) ?_
      refine LJ_nil ?_
      refine QJ_then ?_
      refine CJ_seq ?_
      refine CJ_seq ?_
      refine CJ_reg ?_
      refine LJ_y rfl rfl (YJ_move rfl) ?_
      refine LJ_y rfl rfl (YJ_move rfl) ?_
      refine LJ_y rfl rfl (YJ_rem rfl rfl (by first | decide | omega)) ?_
      refine LJ_y rfl rfl (YJ_shr rfl rfl (Int.tmod_nonneg _ (by omega))) ?_
      refine LJ_y rfl rfl (YJ_andU rfl rfl (Int.ediv_nonneg hf.1 (Int.le_of_lt (Int.pow_pos (by decide))))) ?_
      refine LJ_y rfl rfl (YJ_bin rfl rfl rfl) ?_
      refine LJ_nil ?_
      refine QJ_then ?_
      refine CJ_cond rfl (fun h128 => ?_) (fun h128 => ?_)
      ·simp only [decide_eq_true_eq] at h128
       refine CJ_regD mix (by kernel_rfl) (fun _ _ _ _ _ h => h) (selR [1] _) _ (selR_sub _ _) (fun _ h => h) ?_
       refine AJ_y 0 rfl (by kernel_rfl) (by kernel_rfl) rfl rfl (YJ_move rfl) ?_
       refine AJ_y 1 rfl (by kernel_rfl) (by kernel_rfl) rfl rfl (YJ_move rfl) ?_
       refine AJ_val (v := .int .i64 1) (rfl) ?_
       refine AJ_y 2 rfl (by kernel_rfl) (by kernel_rfl) rfl rfl (YJ_ixArr rfl rfl arrt_34 (by omega) (by omega) rfl) ?_
       refine AJ_y 3 rfl (by kernel_rfl) (by kernel_rfl) rfl rfl (YJ_loadL rfl tyi_3 m0 rfl) ?_
       refine AJ_y 4 rfl (by kernel_rfl) (by kernel_rfl) rfl rfl (YJ_move rfl) ?_
       refine AJ_y 5 rfl (by kernel_rfl) (by kernel_rfl) rfl rfl (YJ_bin rfl rfl (iop_add (by omega))) ?_
       refine AJ_y 6 rfl (by kernel_rfl) (by kernel_rfl) rfl rfl (YJ_rem rfl rfl (by first | decide | omega)) ?_
       refine AJ_val (v := .int .i64 2) (rfl) ?_
       refine AJ_y 7 rfl (by kernel_rfl) (by kernel_rfl) rfl rfl (YJ_ixArr rfl rfl arrt_34 (by omega) (by omega) rfl) ?_
       refine AJ_y 8 rfl (by kernel_rfl) (by kernel_rfl) rfl rfl (YJ_loadL rfl tyi_3 m0 rfl) ?_
       refine AJ_y 9 rfl (by kernel_rfl) (by kernel_rfl) rfl rfl (YJ_min2 rfl rfl) ?_
       refine AJ_y 10 rfl (by kernel_rfl) (by kernel_rfl) rfl rfl (YJ_move rfl) ?_
       refine AJ_val (v := .int .i64 1) (rfl) ?_
       refine AJ_y 11 rfl (by kernel_rfl) (by kernel_rfl) rfl rfl (YJ_ixArr rfl rfl arrt_34 (by omega) (by omega) rfl) ?_
       refine AJ_y 12 rfl (by kernel_rfl) (by kernel_rfl) rfl rfl (YJ_loadL rfl tyi_3 m0 rfl) ?_
       refine AJ_y 13 rfl (by kernel_rfl) (by kernel_rfl) rfl rfl (YJ_move rfl) ?_
       refine AJ_y 14 rfl (by kernel_rfl) (by kernel_rfl) rfl rfl (YJ_bin rfl rfl (iop_add (by omega))) ?_
       refine AJ_y 15 rfl (by kernel_rfl) (by kernel_rfl) rfl rfl (YJ_rem rfl rfl (by first | decide | omega)) ?_
       refine AJ_val (v := .int .i64 2) (rfl) ?_
       refine AJ_y 16 rfl (by kernel_rfl) (by kernel_rfl) rfl rfl (YJ_ixArr rfl rfl arrt_34 (by omega) (by omega) rfl) ?_
       refine AJ_y 17 rfl (by kernel_rfl) (by kernel_rfl) rfl rfl (YJ_loadL rfl tyi_3 m0 rfl) ?_
       refine AJ_y 18 rfl (by kernel_rfl) (by kernel_rfl) rfl rfl (YJ_max2 rfl rfl) ?_
       refine AJ_y 19 rfl (by kernel_rfl) (by kernel_rfl) rfl rfl (YJ_build1 (cs := [_, _]) lay_46 rfl rfl rfl) ?_
       refine AJ_mapUpdate (f := fK) (g := gI) (k := (min (x.2.1) (x.2.2), max (x.2.1) (x.2.2))) (v := (1 : Int)) 20 0 rfl (by kernel_rfl) rfl rfl rfl rfl rfl umap_116 keyO rfl rfl (AllIn.sub (And.intro m1 (trivial))) ?_
       show AJ _ _ _ _ _ _ _ _ (_ :: _ :: _) _
       refine AJ_done (by kernel_rfl) ?_
       refine QJ_then ?_
       refine CJ_reg ?_
       refine LJ_y rfl rfl (YJ_move rfl) ?_
       refine LJ_y rfl rfl (YJ_bin rfl rfl (iop_add (by omega))) ?_
       refine LJ_y rfl rfl (YJ_assign rfl) ?_
       refine LJ_nil ?_
       refine QJ_in_normal ?_
       refine QJ_then ?_
       refine CJ_reg ?_
       refine LJ_y rfl rfl (YJ_bin rfl rfl (iop_add (by omega))) ?_
       refine LJ_y rfl rfl (YJ_move rfl) ?_
       refine LJ_nil ?_
       refine QJ_roundF (F := fun (i : Nat × Nat × MapI × Nat) => ⟨[(1, .int .i64 (H : Int)), (2, .int .u32 v), (3, .int .u32 fa), (4, .pointer (some ⟨b1, 0, none⟩)), (10, .slice A0 (gPts W H).length c0), (13, .slice TA (gTris W H (bitN v)).length cT), (22, .map (some fm)), (23, .int .i64 (i.2.1 : Nat)), (114, .slice TA (gTris W H (bitN v)).length cT), (115, .int .i64 ((gTris W H (bitN v)).length : Nat)), (116, .int .i64 (k : Nat)), (25, .pointer (some ⟨b6, 0, none⟩)), (120, .int .i64 (i.1 : Nat))], [mapR fm fK gI i.2.2.1 i.2.2.2, cellsR b6 #[.int .i64 x.1, .int .i64 x.2.1, .int .i64 x.2.2] 34], []⟩) (I := fun (i : Nat × Nat × MapI × Nat) => i.1 ≤ 3 ∧ (fa = 0 → i.2.2.1 = []) ∧ i.2.1 ≤ 3 * k + i.1) (m := fun (i : Nat × Nat × MapI × Nat) => 3 - i.1) (i := (_, n1, F1, cF1)) ((2, n1 + 1, mput (min (x.2.1) (x.2.2), max (x.2.1) (x.2.2)) (1 : Int) F1 cF1, mclk (min (x.2.1) (x.2.2), max (x.2.1) (x.2.2)) F1 cF1)) (μd := []) ⟨by omega, fun q => by subst q; simp at h128, by dsimp only; omega⟩ (by dsimp only; omega) (And.intro rfl (And.intro rfl (And.intro rfl (And.intro rfl (And.intro rfl (And.intro rfl (And.intro rfl (And.intro rfl (And.intro rfl (And.intro rfl (And.intro rfl (And.intro rfl (And.intro rfl (trivial)))))))))))))) (permI [] rfl) (fun _ h => nomatch h) (fun _ h => h)
      ·simp only [decide_eq_false_iff_not] at h128
       refine CJ_skip ?_
       refine QJ_then ?_
       refine CJ_reg ?_
       refine LJ_y rfl rfl (YJ_move rfl) ?_
       refine LJ_y rfl rfl (YJ_bin rfl rfl (iop_add (by omega))) ?_
       refine LJ_y rfl rfl (YJ_assign rfl) ?_
       refine LJ_nil ?_
       refine QJ_in_normal ?_
       refine QJ_then ?_
       refine CJ_reg ?_
       refine LJ_y rfl rfl (YJ_bin rfl rfl (iop_add (by omega))) ?_
       refine LJ_y rfl rfl (YJ_move rfl) ?_
       refine LJ_nil ?_
       refine QJ_roundF (F := fun (i : Nat × Nat × MapI × Nat) => ⟨[(1, .int .i64 (H : Int)), (2, .int .u32 v), (3, .int .u32 fa), (4, .pointer (some ⟨b1, 0, none⟩)), (10, .slice A0 (gPts W H).length c0), (13, .slice TA (gTris W H (bitN v)).length cT), (22, .map (some fm)), (23, .int .i64 (i.2.1 : Nat)), (114, .slice TA (gTris W H (bitN v)).length cT), (115, .int .i64 ((gTris W H (bitN v)).length : Nat)), (116, .int .i64 (k : Nat)), (25, .pointer (some ⟨b6, 0, none⟩)), (120, .int .i64 (i.1 : Nat))], [mapR fm fK gI i.2.2.1 i.2.2.2, cellsR b6 #[.int .i64 x.1, .int .i64 x.2.1, .int .i64 x.2.2] 34], []⟩) (I := fun (i : Nat × Nat × MapI × Nat) => i.1 ≤ 3 ∧ (fa = 0 → i.2.2.1 = []) ∧ i.2.1 ≤ 3 * k + i.1) (m := fun (i : Nat × Nat × MapI × Nat) => 3 - i.1) (i := (_, n1, F1, cF1)) ((2, n1 + 1, F1, cF1)) (μd := []) ⟨by omega, hF1, by dsimp only; omega⟩ (by dsimp only; omega) (And.intro rfl (And.intro rfl (And.intro rfl (And.intro rfl (And.intro rfl (And.intro rfl (And.intro rfl (And.intro rfl (And.intro rfl (And.intro rfl (And.intro rfl (And.intro rfl (And.intro rfl (trivial)))))))))))))) (permI [] rfl) (fun _ h => nomatch h) (fun _ h => h)
     ·skip
      refine LJ_y rfl rfl (YJ_move rfl) ?_
      refine LJ_y rfl rfl (YJ_assign rfl) ?_
      refine LJ_nil ?_
      refine QJ_then ?_
      refine CJ_seq ?_
      refine CJ_seq ?_
      refine CJ_reg ?_
      refine LJ_y rfl rfl (YJ_move rfl) ?_
      refine LJ_y rfl rfl (YJ_move rfl) ?_
      refine LJ_y rfl rfl (YJ_rem rfl rfl (by first | decide | omega)) ?_
      refine LJ_y rfl rfl (YJ_shr rfl rfl (Int.tmod_nonneg _ (by omega))) ?_
      refine LJ_y rfl rfl (YJ_andU rfl rfl (Int.ediv_nonneg hf.1 (Int.le_of_lt (Int.pow_pos (by decide))))) ?_
      refine LJ_y rfl rfl (YJ_bin rfl rfl rfl) ?_
      refine LJ_nil ?_
      refine QJ_then ?_
      refine CJ_cond rfl (fun h128 => ?_) (fun h128 => ?_)
      ·simp only [decide_eq_true_eq] at h128
       refine CJ_regD mix (by kernel_rfl) (fun _ _ _ _ _ h => h) (selR [1] _) _ (selR_sub _ _) (fun _ h => h) ?_
       refine AJ_y 0 rfl (by kernel_rfl) (by kernel_rfl) rfl rfl (YJ_move rfl) ?_
       refine AJ_y 1 rfl (by kernel_rfl) (by kernel_rfl) rfl rfl (YJ_move rfl) ?_
       refine AJ_val (v := .int .i64 2) (rfl) ?_
       refine AJ_y 2 rfl (by kernel_rfl) (by kernel_rfl) rfl rfl (YJ_ixArr rfl rfl arrt_34 (by omega) (by omega) rfl) ?_
       refine AJ_y 3 rfl (by kernel_rfl) (by kernel_rfl) rfl rfl (YJ_loadL rfl tyi_3 m0 rfl) ?_
       refine AJ_y 4 rfl (by kernel_rfl) (by kernel_rfl) rfl rfl (YJ_move rfl) ?_
       refine AJ_y 5 rfl (by kernel_rfl) (by kernel_rfl) rfl rfl (YJ_bin rfl rfl (iop_add (by omega))) ?_
       refine AJ_y 6 rfl (by kernel_rfl) (by kernel_rfl) rfl rfl (YJ_rem rfl rfl (by first | decide | omega)) ?_
       refine AJ_val (v := .int .i64 0) (rfl) ?_
       refine AJ_y 7 rfl (by kernel_rfl) (by kernel_rfl) rfl rfl (YJ_ixArr rfl rfl arrt_34 (by omega) (by omega) rfl) ?_
       refine AJ_y 8 rfl (by kernel_rfl) (by kernel_rfl) rfl rfl (YJ_loadL rfl tyi_3 m0 rfl) ?_
       refine AJ_y 9 rfl (by kernel_rfl) (by kernel_rfl) rfl rfl (YJ_min2 rfl rfl) ?_
       refine AJ_y 10 rfl (by kernel_rfl) (by kernel_rfl) rfl rfl (YJ_move rfl) ?_
       refine AJ_val (v := .int .i64 2) (rfl) ?_
       refine AJ_y 11 rfl (by kernel_rfl) (by kernel_rfl) rfl rfl (YJ_ixArr rfl rfl arrt_34 (by omega) (by omega) rfl) ?_
       refine AJ_y 12 rfl (by kernel_rfl) (by kernel_rfl) rfl rfl (YJ_loadL rfl tyi_3 m0 rfl) ?_
       refine AJ_y 13 rfl (by kernel_rfl) (by kernel_rfl) rfl rfl (YJ_move rfl) ?_
       refine AJ_y 14 rfl (by kernel_rfl) (by kernel_rfl) rfl rfl (YJ_bin rfl rfl (iop_add (by omega))) ?_
       refine AJ_y 15 rfl (by kernel_rfl) (by kernel_rfl) rfl rfl (YJ_rem rfl rfl (by first | decide | omega)) ?_
       refine AJ_val (v := .int .i64 0) (rfl) ?_
       refine AJ_y 16 rfl (by kernel_rfl) (by kernel_rfl) rfl rfl (YJ_ixArr rfl rfl arrt_34 (by omega) (by omega) rfl) ?_
       refine AJ_y 17 rfl (by kernel_rfl) (by kernel_rfl) rfl rfl (YJ_loadL rfl tyi_3 m0 rfl) ?_
       refine AJ_y 18 rfl (by kernel_rfl) (by kernel_rfl) rfl rfl (YJ_max2 rfl rfl) ?_
       refine AJ_y 19 rfl (by kernel_rfl) (by kernel_rfl) rfl rfl (YJ_build1 (cs := [_, _]) lay_46 rfl rfl rfl) ?_
       refine AJ_mapUpdate (f := fK) (g := gI) (k := (min (x.2.2) (x.1), max (x.2.2) (x.1))) (v := (1 : Int)) 20 0 rfl (by kernel_rfl) rfl rfl rfl rfl rfl umap_116 keyO rfl rfl (AllIn.sub (And.intro m1 (trivial))) ?_
       show AJ _ _ _ _ _ _ _ _ (_ :: _ :: _) _
       refine AJ_done (by kernel_rfl) ?_
       refine QJ_then ?_
       refine CJ_reg ?_
       refine LJ_y rfl rfl (YJ_move rfl) ?_
       refine LJ_y rfl rfl (YJ_bin rfl rfl (iop_add (by omega))) ?_
       refine LJ_y rfl rfl (YJ_assign rfl) ?_
       refine LJ_nil ?_
       refine QJ_in_normal ?_
       refine QJ_then ?_
       refine CJ_reg ?_
       refine LJ_y rfl rfl (YJ_bin rfl rfl (iop_add (by omega))) ?_
       refine LJ_y rfl rfl (YJ_move rfl) ?_
       refine LJ_nil ?_
       refine QJ_roundF (F := fun (i : Nat × Nat × MapI × Nat) => ⟨[(1, .int .i64 (H : Int)), (2, .int .u32 v), (3, .int .u32 fa), (4, .pointer (some ⟨b1, 0, none⟩)), (10, .slice A0 (gPts W H).length c0), (13, .slice TA (gTris W H (bitN v)).length cT), (22, .map (some fm)), (23, .int .i64 (i.2.1 : Nat)), (114, .slice TA (gTris W H (bitN v)).length cT), (115, .int .i64 ((gTris W H (bitN v)).length : Nat)), (116, .int .i64 (k : Nat)), (25, .pointer (some ⟨b6, 0, none⟩)), (120, .int .i64 (i.1 : Nat))], [mapR fm fK gI i.2.2.1 i.2.2.2, cellsR b6 #[.int .i64 x.1, .int .i64 x.2.1, .int .i64 x.2.2] 34], []⟩) (I := fun (i : Nat × Nat × MapI × Nat) => i.1 ≤ 3 ∧ (fa = 0 → i.2.2.1 = []) ∧ i.2.1 ≤ 3 * k + i.1) (m := fun (i : Nat × Nat × MapI × Nat) => 3 - i.1) (i := (_, n1, F1, cF1)) ((3, n1 + 1, mput (min (x.2.2) (x.1), max (x.2.2) (x.1)) (1 : Int) F1 cF1, mclk (min (x.2.2) (x.1), max (x.2.2) (x.1)) F1 cF1)) (μd := []) ⟨by omega, fun q => by subst q; simp at h128, by dsimp only; omega⟩ (by dsimp only; omega) (And.intro rfl (And.intro rfl (And.intro rfl (And.intro rfl (And.intro rfl (And.intro rfl (And.intro rfl (And.intro rfl (And.intro rfl (And.intro rfl (And.intro rfl (And.intro rfl (And.intro rfl (trivial)))))))))))))) (permI [] rfl) (fun _ h => nomatch h) (fun _ h => h)
      ·simp only [decide_eq_false_iff_not] at h128
       refine CJ_skip ?_
       refine QJ_then ?_
       refine CJ_reg ?_
       refine LJ_y rfl rfl (YJ_move rfl) ?_
       refine LJ_y rfl rfl (YJ_bin rfl rfl (iop_add (by omega))) ?_
       refine LJ_y rfl rfl (YJ_assign rfl) ?_
       refine LJ_nil ?_
       refine QJ_in_normal ?_
       refine QJ_then ?_
       refine CJ_reg ?_
       refine LJ_y rfl rfl (YJ_bin rfl rfl (iop_add (by omega))) ?_
       refine LJ_y rfl rfl (YJ_move rfl) ?_
       refine LJ_nil ?_
       refine QJ_roundF (F := fun (i : Nat × Nat × MapI × Nat) => ⟨[(1, .int .i64 (H : Int)), (2, .int .u32 v), (3, .int .u32 fa), (4, .pointer (some ⟨b1, 0, none⟩)), (10, .slice A0 (gPts W H).length c0), (13, .slice TA (gTris W H (bitN v)).length cT), (22, .map (some fm)), (23, .int .i64 (i.2.1 : Nat)), (114, .slice TA (gTris W H (bitN v)).length cT), (115, .int .i64 ((gTris W H (bitN v)).length : Nat)), (116, .int .i64 (k : Nat)), (25, .pointer (some ⟨b6, 0, none⟩)), (120, .int .i64 (i.1 : Nat))], [mapR fm fK gI i.2.2.1 i.2.2.2, cellsR b6 #[.int .i64 x.1, .int .i64 x.2.1, .int .i64 x.2.2] 34], []⟩) (I := fun (i : Nat × Nat × MapI × Nat) => i.1 ≤ 3 ∧ (fa = 0 → i.2.2.1 = []) ∧ i.2.1 ≤ 3 * k + i.1) (m := fun (i : Nat × Nat × MapI × Nat) => 3 - i.1) (i := (_, n1, F1, cF1)) ((3, n1 + 1, F1, cF1)) (μd := []) ⟨by omega, hF1, by dsimp only; omega⟩ (by dsimp only; omega) (And.intro rfl (And.intro rfl (And.intro rfl (And.intro rfl (And.intro rfl (And.intro rfl (And.intro rfl (And.intro rfl (And.intro rfl (And.intro rfl (And.intro rfl (And.intro rfl (And.intro rfl (trivial)))))))))))))) (permI [] rfl) (fun _ h => nomatch h) (fun _ h => h)
    ·simp only [decide_eq_false_iff_not] at h121
     have hj3 : 3 = j := by omega
     subst hj3
     refine CJ_exit ?_
     refine QJ_then_exit ?_
     refine QJ_then_exit ?_
     refine QJ_in_exit ?_
     refine QJ_in_normal ?_
     refine QJ_then ?_
     refine CJ_reg ?_
     refine LJ_y rfl rfl (YJ_bin rfl rfl (iop_add (by omega))) ?_
     refine LJ_y rfl rfl (YJ_move rfl) ?_
     refine LJ_nil ?_
     refine QJ_roundF (F := fun (i : Nat × Nat × MapI × Nat) => ⟨[(1, .int .i64 (H : Int)), (2, .int .u32 v), (3, .int .u32 fa), (4, .pointer (some ⟨b1, 0, none⟩)), (10, .slice A0 (gPts W H).length c0), (13, .slice TA (gTris W H (bitN v)).length cT), (22, .map (some fm)), (23, .int .i64 (i.2.1 : Nat)), (114, .slice TA (gTris W H (bitN v)).length cT), (115, .int .i64 ((gTris W H (bitN v)).length : Nat)), (116, .int .i64 (i.1 : Nat))], [mapR fm fK gI i.2.2.1 i.2.2.2], []⟩) (I := fun (i : Nat × Nat × MapI × Nat) => i.1 ≤ (gTris W H (bitN v)).length ∧ (fa = 0 → i.2.2.1 = []) ∧ i.2.1 ≤ 3 * i.1) (m := fun (i : Nat × Nat × MapI × Nat) => (gTris W H (bitN v)).length - i.1) (i := (k, n, F, cF)) ((k + 1, n1, F1, cF1)) (μd := [_]) ⟨by omega, hF1, by dsimp only; omega⟩ (by dsimp only; omega) (And.intro rfl (And.intro rfl (And.intro rfl (And.intro rfl (And.intro rfl (And.intro rfl (And.intro rfl (And.intro rfl (And.intro rfl (And.intro rfl (And.intro rfl (trivial)))))))))))) (permI [] rfl) (fun _ h => nomatch h) (fun _ h => h)
   ·simp only [decide_eq_false_iff_not] at h117
    refine CJ_exit ?_
    refine QJ_then_exit ?_
    refine QJ_then_exit ?_
    refine QJ_in_exit ?_
    refine QJ_then ?_
    refine CJ_seq ?_
    obtain ⟨a, b, c, rest, hT, hrl, hvv, ha, hb, hc, hA⟩ := g_shape hW hH (bitN v)
    have hgp := gPts_ok hW hH
    have hP : ∀ j, j < (gPts W H).length → P2 ((gPts W H).getD j (0, 0)).1 ((gPts W H).getD j (0, 0)).2 := by
     intro j hj
     have := hgp.2 ((gPts W H).getD j (0, 0)) (by rw [List.getD_eq_getElem?_getD, List.getElem?_eq_getElem hj]; exact List.getElem_mem hj)
     exact ⟨⟨by omega, by omega⟩, ⟨by omega, by omega⟩⟩
    have hv1 : ∀ x, x ∈ [(a, b, c)] → x.1 < (gPts W H).length ∧ x.2.1 < (gPts W H).length ∧ x.2.2 < (gPts W H).length := by
     intro x hx
     rw [List.mem_singleton] at hx
     subst hx
     exact ⟨ha, hb, hc⟩
    have hvr : ∀ x, x ∈ rest → x.1 < ((gPts W H).length : Int) ∧ x.2.1 < ((gPts W H).length : Int) ∧ x.2.2 < ((gPts W H).length : Int) := fun x hx => hvv x (by rw [hT]; exact .tail _ hx)
    have hgr : gridR F W H (bitN v) = buildR F (gPts W H) a b c (((a : Int), (b : Int), (c : Int)) :: rest) := by unfold gridR gHead; rw [hT]; rfl
    have hgpl := hgp.1
    rw [hT]
    refine CJ_freezeK 0 rfl ?_
    show CJ _ _ _ _ (_) _
    refine CJ_reg ?_
    refine LJ_y rfl rfl (YJ_move rfl) ?_
    refine LJ_y rfl rfl (YJ_move rfl) ?_
    refine LJ_y rfl rfl (YJ_move rfl) ?_
    refine LJ_callP (μ1 := []) (μr := []) (permI [] rfl) rfl rfl rfl rfl rfl (build_c (F := F) (a := a) (b := b) (c := c) (rest := rest) (pts := gPts W H) (by omega) (by omega) hv1 hvr hP hA) (AllIn.sub (And.intro m2 (And.intro m1 (And.intro m0 trivial)))) ?_
    rintro ⟨B9, border⟩ hB9
    show LJ _ _ _ _ _ (_ :: _) _
    refine LJ_y rfl rfl (YJ_move rfl) ?_
    refine LJ_y rfl rfl (YJ_assign rfl) ?_
    refine LJ_y rfl rfl (YJ_assign rfl) ?_
    refine LJ_nil ?_
    refine QJ_then ?_
    refine CJ_ret ?_
    skip
    refine QJ_fin (.inl rfl) (μ' := [_]) (μr := []) (φ' := [sliceR 3 TA (((a : Int), (b : Int), (c : Int)) :: rest).length (t3Cells (((a : Int), (b : Int), (c : Int)) :: rest))]) (res_tmp2 rfl rfl rfl) (permI [] rfl) (AllIn.sub (And.intro m1 trivial)) ?_
    rw [← hT, ← hgr] at *
    exact ⟨(B9, F, border, TA, cT), ⟨hF, hB9⟩, rfl, rfl, rfl⟩
end Go.Proofs.Ytbanlhlggkdanaa
namespace Go.Proofs.Ytbanlhlggkdanaa
open Go.RowKit
section
variable {κ ν : Type} [DecidableEq κ]
theorem mfind_succ {k : κ} : ∀ (l : List (κ × ν × Nat)) (b : Nat), mfind k l (b + 1) = (mfind k l b).map (fun p => (p.1 + 1, p.2))
 | [], b => rfl
 | e :: r, b => by
  unfold mfind
  split
  ·rfl
  ·exact mfind_succ r (b + 1)
theorem mget_nil {k : κ} : mget k ([] : List (κ × ν × Nat)) = none := rfl
theorem mget_cons {k : κ} {e : κ × ν × Nat} {l : List (κ × ν × Nat)} : mget k (e :: l) = if k = e.1 then some e.2.1 else mget k l := by
 unfold mget
 rw [mfind]
 by_cases h : k = e.1
 ·rw [if_pos h, if_pos h]; rfl
 ·rw [if_neg h, if_neg h, mfind_succ]; cases mfind k l 0 <;> rfl
theorem mput_nil {k : κ} {v : ν} {c : Nat} : mput k v ([] : List (κ × ν × Nat)) c = [(k, v, c)] := rfl
theorem mput_cons {k : κ} {v : ν} {e : κ × ν × Nat} {l : List (κ × ν × Nat)} {c : Nat} : mput k v (e :: l) c = if k = e.1 then (e.1, v, e.2.2) :: l else e :: mput k v l c := by
 unfold mput
 rw [mfind]
 by_cases h : k = e.1
 ·rw [if_pos h, if_pos h]; rfl
 ·rw [if_neg h, if_neg h, mfind_succ]; cases mfind k l 0 <;> rfl
theorem mdel_cons {k : κ} {e : κ × ν × Nat} {l : List (κ × ν × Nat)} : mdel k (e :: l) = if k = e.1 then l else e :: mdel k l := by
 unfold mdel
 rw [mfind]
 by_cases h : k = e.1
 ·rw [if_pos h, if_pos h]; rfl
 ·rw [if_neg h, if_neg h, mfind_succ]; cases mfind k l 0 <;> rfl
theorem mget_mput {k k' : κ} {v : ν} {c : Nat} : ∀ {l : List (κ × ν × Nat)}, mget k' (mput k v l c) = if k' = k then some v else mget k' l
 | [] => by rw [mput_nil, mget_cons, mget_nil]
 | e :: l => by
  rw [mput_cons]
  by_cases h : k = e.1
  ·rw [if_pos h, mget_cons, mget_cons, ← h]
   by_cases h2 : k' = k <;> simp [h2]
  ·rw [if_neg h, mget_cons, mget_cons, mget_mput]
   by_cases h2 : k' = e.1
   ·subst h2; rw [if_pos rfl, if_pos rfl, if_neg (fun q => h q.symm)]
   ·rw [if_neg h2, if_neg h2]
theorem mget_mdel_ne {k k' : κ} (h : k' ≠ k) : ∀ {l : List (κ × ν × Nat)}, mget k' (mdel k l) = mget k' l
 | [] => rfl
 | e :: l => by
  rw [mdel_cons]
  by_cases h1 : k = e.1
  ·rw [if_pos h1, mget_cons, if_neg (fun q => h (q.trans h1.symm))]
  ·rw [if_neg h1, mget_cons, mget_cons, mget_mdel_ne h]
theorem mget_none {k : κ} : ∀ {l : List (κ × ν × Nat)}, ¬ k ∈ l.map (·.1) → mget k l = none
 | [], _ => rfl
 | e :: l, h => by
  rw [List.map_cons, List.mem_cons, not_or] at h
  rw [mget_cons, if_neg h.1]; exact mget_none h.2
theorem mget_mdel_eq {k : κ} : ∀ {l : List (κ × ν × Nat)}, (l.map (·.1)).Nodup → mget k (mdel k l) = none
 | [], _ => rfl
 | e :: l, h => by
  rw [List.map_cons, List.nodup_cons] at h
  rw [mdel_cons]
  by_cases h1 : k = e.1
  ·rw [if_pos h1]; exact mget_none (h1 ▸ h.1)
  ·rw [if_neg h1, mget_cons, if_neg h1]; exact mget_mdel_eq h.2
theorem mdel_keys {k : κ} {l : List (κ × ν × Nat)} (h : (l.map (·.1)).Nodup) : ((mdel k l).map (·.1)).Nodup := by
 unfold mdel
 split
 ·exact h.sublist (List.Sublist.map _ (List.eraseIdx_sublist _ _))
 ·exact h
theorem mput_keys {k : κ} {v : ν} {c : Nat} : ∀ {l : List (κ × ν × Nat)}, (l.map (·.1)).Nodup → ((mput k v l c).map (·.1)).Nodup
 | [], _ => by rw [mput_nil]; simp
 | e :: l, h => by
  rw [mput_cons]
  by_cases h1 : k = e.1
  ·rw [if_pos h1]; exact h
  ·rw [if_neg h1]
   rw [List.map_cons, List.nodup_cons] at h ⊢
   refine ⟨fun q => ?_, mput_keys h.2⟩
   obtain ⟨e', he', q2⟩ := List.mem_map.1 q
   rcases mput_key he' with q3 | ⟨e2, q3, q4⟩
   ·exact h1 (q3.symm.trans q2)
   ·exact h.1 (List.mem_map.2 ⟨e2, q3, q4.trans q2⟩)
theorem mget_some_mem {k : κ} {v : ν} {l : List (κ × ν × Nat)} (h : mget k l = some v) : k ∈ l.map (·.1) := by
 obtain ⟨e, h1, h2, _⟩ := mget_mem h
 exact List.mem_map.2 ⟨e, h1, h2⟩
theorem mget_of_mem : ∀ {l : List (κ × ν × Nat)} {e : κ × ν × Nat}, (l.map (·.1)).Nodup → e ∈ l → mget e.1 l = some e.2.1
 | x :: l, e, hn, h => by
  rw [List.map_cons, List.nodup_cons] at hn
  rw [mget_cons]
  rcases List.mem_cons.1 h with rfl | h
  ·rw [if_pos rfl]
  ·rw [if_neg (fun q : e.1 = x.1 => hn.1 (q ▸ List.mem_map.2 ⟨e, h, rfl⟩))]; exact mget_of_mem hn.2 h
end
def vw (l : List Tr) (q : Nat) : Option (Int × Int × Int) := l[q]?.map fun t => (t.v0, t.v1, t.v2)
def nb (l : List Tr) (q k : Nat) : Option Int := l[q]?.map fun t => t.n k
def rv (v : Int × Int × Int) : Prop := 0 ≤ v.1 ∧ 0 ≤ v.2.1 ∧ 0 ≤ v.2.2
instance (v : Int × Int × Int) : Decidable (rv v) := inferInstanceAs (Decidable (_ ∧ _))
theorem setN_v (t : Tr) (i : Nat) (u : Int) : (t.setN i u).v0 = t.v0 ∧ (t.setN i u).v1 = t.v1 ∧ (t.setN i u).v2 = t.v2 := by
 unfold Tr.setN
 (repeat' split) <;> exact ⟨rfl, rfl, rfl⟩
theorem setF_v (t : Tr) (i : Nat) (f : Bool) : (t.setF i f).v0 = t.v0 ∧ (t.setF i f).v1 = t.v1 ∧ (t.setF i f).v2 = t.v2 := by
 unfold Tr.setF
 (repeat' split) <;> exact ⟨rfl, rfl, rfl⟩
theorem setF_n (t : Tr) (i : Nat) (f : Bool) (k : Nat) : (t.setF i f).n k = t.n k := by
 unfold Tr.setF
 (repeat' split) <;> rfl
theorem setN_n (t : Tr) {i k : Nat} (u : Int) (hi : i < 3) (hk : k < 3) : (t.setN i u).n k = if k = i then u else t.n k := by
 match i, hi, k, hk with
 | 0, _, 0, _ => rfl
 | 0, _, 1, _ => rfl
 | 0, _, 2, _ => rfl
 | 1, _, 0, _ => rfl
 | 1, _, 1, _ => rfl
 | 1, _, 2, _ => rfl
 | 2, _, 0, _ => rfl
 | 2, _, 1, _ => rfl
 | 2, _, 2, _ => rfl
theorem vw_modify (l : List Tr) (i : Nat) (f : Tr → Tr) (hf : ∀ t, (f t).v0 = t.v0 ∧ (f t).v1 = t.v1 ∧ (f t).v2 = t.v2) (q : Nat) : vw (l.modify i f) q = vw l q := by
 unfold vw
 rw [List.getElem?_modify]
 cases l[q]? with
 | none => rfl
 | some t =>
  by_cases h : i = q
  ·simp [h, (hf t).1, (hf t).2.1, (hf t).2.2]
  ·simp [h]
theorem vw_link (M : MD) (t i u j : Nat) (f : Bool) (q : Nat) : vw (M.link t i u j f).tris q = vw M.tris q := by
 unfold MD.link
 dsimp only
 rw [vw_modify _ _ _ (fun x => setF_v x _ _), vw_modify _ _ _ (fun x => setF_v x _ _), vw_modify _ _ _ (fun x => setN_v x _ _), vw_modify _ _ _ (fun x => setN_v x _ _)]
theorem nb_modF (l : List Tr) (i j : Nat) (f : Bool) (q k : Nat) : nb (l.modify i (·.setF j f)) q k = nb l q k := by
 unfold nb
 rw [List.getElem?_modify]
 cases l[q]? with
 | none => rfl
 | some t => by_cases h : i = q <;> simp [h, setF_n]
theorem nb_modN (l : List Tr) {i j : Nat} (u : Int) {q k : Nat} (hj : j < 3) (hk : k < 3) : nb (l.modify i (·.setN j u)) q k = if q = i ∧ k = j then (nb l q k).map (fun _ => u) else nb l q k := by
 unfold nb
 rw [List.getElem?_modify]
 cases l[q]? with
 | none => simp
 | some t =>
  by_cases h : i = q
  ·subst h
   by_cases h2 : k = j
   ·subst h2; simp [setN_n t u hk hk]
   ·simp [setN_n t u hj hk, h2]
  ·have h' : ¬ q = i := fun e => h e.symm
   simp [h, h']
theorem nb_link (M : MD) {t i u j : Nat} (f : Bool) {q k : Nat} (hi : i < 3) (hj : j < 3) (hk : k < 3) : nb (M.link t i u j f).tris q k = if q = u ∧ k = j then (nb M.tris q k).map (fun _ => (t : Int)) else if q = t ∧ k = i then (nb M.tris q k).map (fun _ => (u : Int)) else nb M.tris q k := by
 unfold MD.link
 dsimp only
 rw [nb_modF, nb_modF, nb_modN _ _ hj hk, nb_modN _ _ hi hk]
 by_cases h1 : q = u ∧ k = j
 ·rw [if_pos h1, if_pos h1]
  by_cases h2 : q = t ∧ k = i
  ·rw [if_pos h2]; cases nb M.tris q k <;> rfl
  ·rw [if_neg h2]
 ·rw [if_neg h1, if_neg h1]
theorem vw_make (M : MD) (a b c : Int) (hf : ∀ k, k ∈ M.free → 0 ≤ k ∧ k < M.tris.length) (q : Nat) : vw (M.make a b c).tris q = if q = M.nextN.toNat then some (a, b, c) else vw M.tris q := by
 unfold vw MD.make MD.nextN
 dsimp only
 cases h : M.free.getLast? with
 | none =>
  dsimp only
  rw [List.getElem?_append]
  by_cases h1 : q < M.tris.length
  ·rw [if_pos h1, if_neg (by simp; omega)]
  ·rw [if_neg h1]
   by_cases h2 : q = M.tris.length
   ·subst h2; simp [Tr.new]
   ·rw [List.getElem?_eq_none (by simp; omega), if_neg (by simpa using h2), List.getElem?_eq_none (by omega)]
 | some k =>
  dsimp only
  have hk := hf k (List.mem_of_getLast? h)
  rw [List.getElem?_set]
  by_cases h2 : k.toNat = q
  ·rw [if_pos h2, if_pos h2.symm, if_pos (by omega)]; rfl
  ·rw [if_neg h2, if_neg (fun e => h2 e.symm)]
theorem nb_make (M : MD) (a b c : Int) (q j : Nat) (hq : q ≠ M.nextN.toNat) : nb (M.make a b c).tris q j = nb M.tris q j := by
 unfold nb MD.make
 unfold MD.nextN at hq
 dsimp only
 cases h : M.free.getLast? with
 | none =>
  rw [h] at hq
  dsimp only at hq ⊢
  rw [List.getElem?_append]
  by_cases h1 : q < M.tris.length
  ·rw [if_pos h1]
  ·rw [if_neg h1, List.getElem?_eq_none (by simp at hq ⊢; omega), List.getElem?_eq_none (by omega)]
 | some k =>
  rw [h] at hq
  dsimp only at hq ⊢
  rw [List.getElem?_set, if_neg (fun e => hq e.symm)]
end Go.Proofs.Ytbanlhlggkdanaa
